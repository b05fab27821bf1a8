/-
  Lists that came in, as what they read.
-/
import Derived.Test.YtjkgdggkgljdoaaDoorVinv10
import Derived.Test.YtjkgdggkgljdoaaDoorVinv07
import Derived.Test.YtjkgdggkgljdoaaDoorVinv14
import Derived.Test.YtjkgdggkgljdoaaDoorVinv01
import Derived.Test.YtjkgdggkgljdoaaDoorVinv11
import Derived.Test.YtjkgdggkgljdoaaDoorVinv12
import Derived.Test.YtjkgdggkgljdoaaDoorVinv09
namespace Go.Proofs.YtjkgdggkgljdoaaDoor
open Go.RowKit Go.WideShapes Go.ChangeShapes Go.Deep
set_option linter.unusedVariables false
section
variable {H : Type} {enc : TypeId × Value → H} {w : World} {base base0 : Nat} {sp : Nat → Bool} {held : Bool}
end
end Go.Proofs.YtjkgdggkgljdoaaDoor
namespace Go.Proofs.YtjkgdggkgljdoaaDoor
set_option linter.unusedVariables false
def rv (m : Nat) (f : Nat → Int) : RV := fun x => if x < m then (f x : Rat) else 0
theorem zcd {m x : Nat} {f : Nat → Int} (h : x < m) : rv m f x = (f x : Rat) := if_pos h
theorem zew {m x : Nat} {f : Nat → Int} (h : ¬ x < m) : rv m f x = 0 := if_neg h
theorem rv_int (m : Nat) (f : Nat → Int) : IntV (rv m f) := fun x => by
  by_cases h : x < m
  · exact ⟨f x, zcd h⟩
  · exact ⟨0, zew h⟩
theorem rv_ext {m : Nat} {f g : Nat → Int} (h : ∀ x, x < m → f x = g x) : rv m f = rv m g := by
  funext x
  by_cases hx : x < m
  · rw [zcd hx, zcd hx, h x hx]
  · rw [zew hx, zew hx]
def zcy (m : Nat) (Ms : Nat → Nat → Int) (k : Nat) : List RV := (List.range k).map fun l => rv m (Ms l)
theorem rowsL_len (m : Nat) (Ms : Nat → Nat → Int) (k : Nat) : (zcy m Ms k).length = k := by simp [zcy]
theorem rowsL_succ (m : Nat) (Ms : Nat → Nat → Int) (k : Nat) : zcy m Ms (k + 1) = zcy m Ms k ++ [rv m (Ms k)] := by simp [zcy, List.range_succ]
theorem rowsL_mem {m : Nat} {Ms : Nat → Nat → Int} {k l : Nat} (h : l < k) : rv m (Ms l) ∈ zcy m Ms k := List.mem_map.2 ⟨l, List.mem_range.2 h, rfl⟩
theorem rowsL_ext {m k : Nat} {Ms Ns : Nat → Nat → Int} (h : ∀ l, l < k → Ms l = Ns l) : zcy m Ms k = zcy m Ns k := List.map_congr_left fun l hl => by rw [h l (List.mem_range.1 hl)]
theorem rowsL_int {m k : Nat} {Ms : Nat → Nat → Int} : ∀ v ∈ zcy m Ms k, IntV v := fun v hv => by
  obtain ⟨l, _, rfl⟩ := List.mem_map.1 hv
  exact rv_int m _
def PM (m : Nat) (f g : Nat → Int) : Prop := ∃ t : Int, (t = 1 ∨ t = -1) ∧ ∀ x, x < m → f x = t * g x
theorem PM.refl (m : Nat) (f : Nat → Int) : PM m f f := ⟨1, .inl rfl, fun x _ => by omega⟩
theorem PM.trans {m : Nat} {f g h : Nat → Int} (a : PM m f g) (b : PM m g h) : PM m f h := by
  obtain ⟨s, hs, h1⟩ := a
  obtain ⟨t, ht, h2⟩ := b
  refine ⟨s * t, by rcases hs with rfl | rfl <;> rcases ht with rfl | rfl <;> simp, fun x hx => by rw [h1 x hx, h2 x hx]; grind⟩
structure Elim (n m : Nat) (A0 : Nat → Nat → Int) (k : Nat) (s : RS) (Ms : Nat → Nat → Int) : Prop where
  orig : ∀ i, i < n → ∃ j, j < n ∧ PM m (A0 i) (Ms j)
  len : s.piv.length ≤ n
  lt : ∀ l, l < s.piv.length → s.piv.getD l 0 < k
  asc : ∀ i j, i < j → j < s.piv.length → s.piv.getD i 0 < s.piv.getD j 0
  d0 : 0 < s.d
  det : ((s.d : Int) : Rat) = detL s.piv (zcy m Ms s.piv.length)
  spn : ∀ l, l < s.piv.length → Spn (zcy m Ms s.piv.length) (rv m (s.A l))
  dia : ∀ l j, l < s.piv.length → j < s.piv.length → s.A l (s.piv.getD j 0) = if l = j then (s.d : Int) else 0
  rest : ∀ i, s.piv.length ≤ i → i < n → ∀ x, x < m → (s.A i x : Rat) = ((s.d : Int) : Rat) * (Ms i x : Rat) - sumN s.piv.length fun l => (Ms i (s.piv.getD l 0) : Rat) * (s.A l x : Rat)
  zero : ∀ i, s.piv.length ≤ i → i < n → ∀ x, x < k → s.A i x = 0
  left : ∀ l, l < s.piv.length → ∀ x, x < s.piv.getD l 0 → s.A l x = 0
theorem Elim.start (n m : Nat) (A0 : Nat → Nat → Int) : Elim n m A0 0 ⟨A0, 1, []⟩ A0 where
  orig i hi := ⟨i, hi, PM.refl m _⟩
  len := Nat.zero_le _
  lt l hl := absurd hl (Nat.not_lt_zero _)
  asc i j _ hj := absurd hj (Nat.not_lt_zero _)
  d0 := Nat.one_pos
  det := rfl
  spn l hl := absurd hl (Nat.not_lt_zero _)
  dia l j hl _ := absurd hl (Nat.not_lt_zero _)
  rest i _ _ x _ := by show (A0 i x : Rat) = ((1 : Int) : Rat) * (A0 i x : Rat) - 0; grind
  zero i _ _ x hx := absurd hx (Nat.not_lt_zero _)
  left l hl := absurd hl (Nat.not_lt_zero _)
theorem Elim.rows {n m k : Nat} {A0 : Nat → Nat → Int} {s : RS} {Ms A' Ns : Nat → Nat → Int} (h : Elim n m A0 k s Ms) (hk : k ≤ m) (hA : ∀ l, l < s.piv.length → A' l = s.A l) (hM : ∀ l, l < s.piv.length → Ns l = Ms l)
    (hr : ∀ i, s.piv.length ≤ i → i < n → ∃ j, s.piv.length ≤ j ∧ j < n ∧ ∃ t : Int, (t = 1 ∨ t = -1) ∧ (∀ x, x < m → A' i x = t * s.A j x) ∧ (∀ x, x < m → Ns i x = t * Ms j x))
    (ho : ∀ j, j < n → ∃ i, i < n ∧ PM m (Ms j) (Ns i)) : Elim n m A0 k ⟨A', s.d, s.piv⟩ Ns where
  orig i hi := by
    obtain ⟨j, hj, p⟩ := h.orig i hi
    obtain ⟨i', hi', q⟩ := ho j hj
    exact ⟨i', hi', p.trans q⟩
  len := h.len
  lt := h.lt
  asc := h.asc
  d0 := h.d0
  det := by rw [rowsL_ext hM]; exact h.det
  spn l hl := by show Spn (zcy m Ns s.piv.length) (rv m (A' l)); rw [rowsL_ext hM, hA l hl]; exact h.spn l hl
  dia l j hl hj := by show A' l _ = _; rw [hA l hl]; exact h.dia l j hl hj
  rest i h1 h2 x hx := by
    obtain ⟨j, hj1, hj2, t, ht, e1, e2⟩ := hr i h1 h2
    have e := h.rest j hj1 hj2 x hx
    show (A' i x : Rat) = ((s.d : Int) : Rat) * (Ns i x : Rat) - sumN s.piv.length fun l => (Ns i (s.piv.getD l 0) : Rat) * (A' l x : Rat)
    have e3 : (sumN s.piv.length fun l => (Ns i (s.piv.getD l 0) : Rat) * (A' l x : Rat)) = (t : Rat) * sumN s.piv.length fun l => (Ms j (s.piv.getD l 0) : Rat) * (s.A l x : Rat) := by
      rw [← zcb]
      refine zbg fun l hl => ?_
      rw [hA l hl, e2 _ (Nat.lt_of_lt_of_le (h.lt l hl) hk), Rat.intCast_mul]
      grind
    rw [e3, e1 x hx, e2 x hx, Rat.intCast_mul, Rat.intCast_mul, e]
    grind
  zero i h1 h2 x hx := by
    obtain ⟨j, hj1, hj2, t, ht, e1, e2⟩ := hr i h1 h2
    show A' i x = 0
    rw [e1 x (by omega), h.zero j hj1 hj2 x hx, Int.mul_zero]
  left l hl x hx := by show A' l x = 0; rw [hA l hl]; exact h.left l hl x hx
theorem Elim.swap {n m k r : Nat} {A0 : Nat → Nat → Int} {s : RS} {Ms : Nat → Nat → Int} (h : Elim n m A0 k s Ms) (hk : k ≤ m) (h1 : s.piv.length ≤ r) (h2 : r < n) : Elim n m A0 k ⟨swF s.A s.piv.length r, s.d, s.piv⟩ (swF Ms s.piv.length r) := by
  refine h.rows hk (fun l hl => swF_o _ (by omega) (by omega)) (fun l hl => swF_o _ (by omega) (by omega)) (fun i hi1 hi2 => ?_) (fun j hj => ?_)
  · obtain ⟨j, hj1, hj2, e1, e2⟩ : ∃ j, s.piv.length ≤ j ∧ j < n ∧ swF s.A s.piv.length r i = s.A j ∧ swF Ms s.piv.length r i = Ms j := by
      by_cases g1 : i = s.piv.length
      · exact ⟨r, h1, h2, by rw [g1]; exact swF_i _ _ _, by rw [g1]; exact swF_i _ _ _⟩
      · by_cases g2 : i = r
        · exact ⟨s.piv.length, by omega, by omega, by rw [g2]; exact swF_k _ _ _, by rw [g2]; exact swF_k _ _ _⟩
        · exact ⟨i, hi1, hi2, swF_o _ g1 g2, swF_o _ g1 g2⟩
    exact ⟨j, hj1, hj2, 1, .inl rfl, fun x _ => by rw [e1]; omega, fun x _ => by rw [e2]; omega⟩
  · by_cases g1 : j = s.piv.length
    · exact ⟨r, h2, by rw [swF_k, g1]; exact PM.refl m _⟩
    · by_cases g2 : j = r
      · exact ⟨s.piv.length, by omega, by rw [swF_i, g2]; exact PM.refl m _⟩
      · exact ⟨j, hj, by rw [swF_o _ g1 g2]; exact PM.refl m _⟩
theorem Elim.flip {n m k c : Nat} {A0 : Nat → Nat → Int} {s : RS} {Ms : Nat → Nat → Int} (h : Elim n m A0 k s Ms) (hk : k ≤ m) (h1 : s.piv.length < n) : ∃ Ns, Elim n m A0 k ⟨zdg s.A m s.piv.length c, s.d, s.piv⟩ Ns := by
  unfold zdg
  split
  · exact ⟨Ms, h⟩
  · refine ⟨zdv Ms s.piv.length m, h.rows hk (fun l hl => ?_) (fun l hl => ?_) (fun i hi1 hi2 => ?_) (fun j hj => ?_)⟩
    · funext x; unfold zdv; rw [if_neg (by omega)]
    · funext x; unfold zdv; rw [if_neg (by omega)]
    · by_cases g : i = s.piv.length
      · refine ⟨i, hi1, hi2, -1, .inr rfl, fun x hx => ?_, fun x hx => ?_⟩
        · unfold zdv; rw [if_pos ⟨g, hx⟩]; omega
        · unfold zdv; rw [if_pos ⟨g, hx⟩]; omega
      · refine ⟨i, hi1, hi2, 1, .inl rfl, fun x hx => ?_, fun x hx => ?_⟩
        · unfold zdv; rw [if_neg (by omega)]; omega
        · unfold zdv; rw [if_neg (by omega)]; omega
    · by_cases g : j = s.piv.length
      · refine ⟨j, hj, -1, .inr rfl, fun x hx => ?_⟩
        unfold zdv; rw [if_pos ⟨g, hx⟩]; omega
      · refine ⟨j, hj, 1, .inl rfl, fun x hx => ?_⟩
        unfold zdv; rw [if_neg (by omega)]; omega
theorem spn_rest {Ls : List RV} {w : RV} {A : Nat → RV} {cf : Nat → Rat} (hw : Spn Ls w) (a : Rat) (n : Nat) (hA : ∀ l, l < n → Spn Ls (A l)) : Spn Ls (fun x => a * w x - sumN n fun l => cf l * A l x) := by
  induction n with
  | zero =>
    have := Spn.lin a 0 w w hw hw
    have e : (fun x => a * w x - sumN 0 fun l => cf l * A l x) = fun x => a * w x + 0 * w x := by funext x; simp only [sumN]; grind
    rw [e]; exact this
  | succ n ih =>
    have := Spn.lin 1 (-(cf n)) _ _ (ih fun l hl => hA l (by omega)) (hA n (by omega))
    have e : (fun x => a * w x - sumN (n + 1) fun l => cf l * A l x) = fun x => 1 * (fun x => a * w x - sumN n fun l => cf l * A l x) x + -(cf n) * A n x := by funext x; simp only [sumN]; grind
    rw [e]; exact this
def nextB (m : Nat) (A : Nat → Nat → Int) (np k d : Nat) (l : Nat) : RV := if l = np then rv m (A np) else fun x => ((A np k : Int) : Rat) / ((d : Int) : Rat) * rv m (A l) x + (-(((A l k : Int) : Rat) / ((d : Int) : Rat))) * rv m (A np) x
theorem zef {l : List Nat} {k i : Nat} (h : i < l.length) : (l ++ [k]).getD i 0 = l.getD i 0 := by
  rw [List.getD_eq_getElem?_getD, List.getElem?_append_left h, ← List.getD_eq_getElem?_getD]
theorem zel (l : List Nat) (k : Nat) : (l ++ [k]).getD l.length 0 = k := by
  rw [List.getD_eq_getElem?_getD, List.getElem?_append_right (Nat.le_refl _), Nat.sub_self]; rfl
theorem Elim.clear {n m k : Nat} {A0 : Nat → Nat → Int} {s : RS} {Ms : Nat → Nat → Int} (h : Elim n m A0 k s Ms) (hk : k < m) (hnp : s.piv.length < n) (hp : 0 < s.A s.piv.length k) :
    Elim n m A0 (k + 1) ⟨zch s.A m s.piv.length k s.d n, (s.A s.piv.length k).natAbs, s.piv ++ [k]⟩ Ms ∧ ∀ a b, a < n → b < m → a ≠ s.piv.length → ((zch s.A m s.piv.length k s.d n a b : Int) : Rat) = ((s.A a b : Rat) * (s.A s.piv.length k : Rat) - (s.A a k : Rat) * (s.A s.piv.length b : Rat)) / ((s.d : Int) : Rat) := by
  obtain ⟨np, hnp'⟩ : ∃ np, np = s.piv.length := ⟨_, rfl⟩
  obtain ⟨p, hp'⟩ : ∃ p, p = s.A np k := ⟨_, rfl⟩
  obtain ⟨D, hD⟩ : ∃ D, D = ((s.d : Int) : Rat) := ⟨_, rfl⟩
  rw [← hnp'] at hnp hp ⊢
  rw [← hp'] at hp ⊢
  have hd0 : ((s.d : Int) : Rat) ≠ 0 := by
    intro e
    have h1 : (s.d : Int) = 0 := Rat.intCast_inj.1 (by rw [e]; rfl)
    have := h.d0
    omega
  have hp0 : ((p : Int) : Rat) ≠ 0 := by
    intro e
    have h1 : p = 0 := Rat.intCast_inj.1 (by rw [e]; rfl)
    omega
  have hpn : ((p.natAbs : Nat) : Int) = p := by omega
  have Hlt := h.lt; have Hspn := h.spn; have Hdia := h.dia; have Hrest := h.rest; have Hzero := h.zero; have Hleft := h.left; have Hdet := h.det
  rw [← hnp'] at Hlt Hspn Hdia Hrest Hzero Hleft Hdet
  have Hpiv : ∀ j, j < np → s.piv.getD j 0 < m := fun j hj => Nat.lt_trans (Hlt j hj) hk
  have hL : (zcy m Ms np).length = s.piv.length := by rw [rowsL_len, hnp']
  have hL1 : (zcy m Ms (np + 1)).length = (s.piv ++ [k]).length := by rw [rowsL_len, List.length_append, ← hnp']; rfl
  have hlen1 : (s.piv ++ [k]).length = np + 1 := by rw [List.length_append, ← hnp']; rfl
  have hdown : ∀ (w : RV) (x : Nat), detL (s.piv ++ [x]) (zcy m Ms np ++ [w]) = ((s.d : Int) : Rat) * w x - sumN np fun l => w (s.piv.getD l 0) * rv m (s.A l) x := by
    intro w x
    have := detL_rest (Ms := zcy m Ms np) (cs := s.piv) (A := fun l => rv m (s.A l)) (d := ((s.d : Int) : Rat)) hL (fun l hl => Hspn l (by omega)) (fun l j hl hj => ?_) Hdet hd0 w x
    · rw [← hnp'] at this; exact this
    · rw [zcd (Hpiv j (by omega)), Hdia l j (by omega) (by omega)]
      split <;> rfl
  have hrow : ∀ i, np ≤ i → i < n → ∀ x, x < m → detL (s.piv ++ [x]) (zcy m Ms np ++ [rv m (Ms i)]) = (s.A i x : Rat) := by
    intro i h1 h2 x hx
    rw [hdown, Hrest i h1 h2 x hx, zcd hx]
    congr 1
    exact zbg fun l hl => by rw [zcd (Hpiv l hl), zcd hx]
  have hdet1 : ((p : Int) : Rat) = detL (s.piv ++ [k]) (zcy m Ms (np + 1)) := by rw [rowsL_succ, hrow np (Nat.le_refl _) hnp k hk, hp']
  have hmono : ∀ v ∈ zcy m Ms np, v ∈ zcy m Ms (np + 1) := fun v hv => by rw [rowsL_succ]; exact List.mem_append_left _ hv
  have hnpz : ∀ j, j < np → s.A np (s.piv.getD j 0) = 0 := fun j hj => Hzero np (Nat.le_refl _) hnp _ (Hlt j hj)
  have hspnp : Spn (zcy m Ms (np + 1)) (rv m (s.A np)) := by
    have h1 := spn_rest (Ls := zcy m Ms (np + 1)) (w := rv m (Ms np)) (A := fun l => rv m (s.A l)) (cf := fun l => (Ms np (s.piv.getD l 0) : Rat)) (.row _ (rowsL_mem (Nat.lt_succ_self _))) ((s.d : Int) : Rat) np (fun l hl => (Hspn l hl).mono hmono)
    have e : rv m (s.A np) = fun x => ((s.d : Int) : Rat) * rv m (Ms np) x - sumN np fun l => (Ms np (s.piv.getD l 0) : Rat) * rv m (s.A l) x := by
      funext x
      by_cases hx : x < m
      · rw [zcd hx, zcd hx, Hrest np (Nat.le_refl _) hnp x hx]
        congr 1
        exact zbg fun l hl => by rw [zcd hx]
      · rw [zew hx, zew hx, sumN_zero fun l hl => by rw [zew hx]; grind]
        grind
    rw [e]; exact h1
  have hspn1 : ∀ l, l < np + 1 → Spn (zcy m Ms (np + 1)) (nextB m s.A np k s.d l) := by
    intro l hl
    unfold nextB
    split
    · exact hspnp
    · exact .lin _ _ _ _ ((Hspn l (by omega)).mono hmono) hspnp
  have hBnp : nextB m s.A np k s.d np = rv m (s.A np) := if_pos rfl
  have hBl : ∀ l, l ≠ np → ∀ x, nextB m s.A np k s.d l x = ((p : Int) : Rat) / ((s.d : Int) : Rat) * rv m (s.A l) x + (-(((s.A l k : Int) : Rat) / ((s.d : Int) : Rat))) * rv m (s.A np) x := fun l hl x => by
    unfold nextB; rw [if_neg hl, ← hp']
  have hdia1 : ∀ l j, l < np + 1 → j < np + 1 → nextB m s.A np k s.d l ((s.piv ++ [k]).getD j 0) = if l = j then ((p : Int) : Rat) else 0 := by
    intro l j hl hj
    rcases Nat.lt_or_ge j np with hjn | hjn
    · rw [zef (by omega)]
      by_cases hln : l = np
      · subst hln
        rw [hBnp, zcd (Hpiv j hjn), hnpz j hjn, if_neg (by omega)]; rfl
      · rw [hBl l hln, zcd (Hpiv j hjn), zcd (Hpiv j hjn), hnpz j hjn, Hdia l j (by omega) hjn]
        split
        · have := Rat.div_mul_cancel (a := ((p : Int) : Rat)) hd0
          rw [this]; grind
        · grind
    · obtain rfl : j = np := by omega
      have e : (s.piv ++ [k]).getD j 0 = k := by rw [hnp']; exact zel _ _
      rw [e]
      by_cases hln : l = j
      · subst hln
        rw [hBnp, zcd hk, if_pos rfl, hp']
      · rw [hBl l hln, zcd hk, zcd hk, if_neg hln, ← hp']
        grind
  have hdown1 : ∀ (w : RV) (x : Nat), detL ((s.piv ++ [k]) ++ [x]) (zcy m Ms (np + 1) ++ [w]) = ((p : Int) : Rat) * w x - sumN (np + 1) fun l => w ((s.piv ++ [k]).getD l 0) * nextB m s.A np k s.d l x := by
    intro w x
    have := detL_rest (Ms := zcy m Ms (np + 1)) (cs := s.piv ++ [k]) (A := nextB m s.A np k s.d) (d := ((p : Int) : Rat)) hL1 (fun l hl => hspn1 l (by omega)) (fun l j hl hj => hdia1 l j (by omega) (by omega)) hdet1 hp0 w x
    rw [hlen1] at this; exact this
  have hint : ∀ (w : RV) (x : Nat), IntV w → ∃ z : Int, ((p : Int) : Rat) * w x - (sumN (np + 1) fun l => w ((s.piv ++ [k]).getD l 0) * nextB m s.A np k s.d l x) = (z : Rat) := by
    intro w x hw
    obtain ⟨z, hz⟩ := detL_int ((s.piv ++ [k]) ++ [x]) (zcy m Ms (np + 1) ++ [w]) (fun v hv => by
      rcases List.mem_append.1 hv with h1 | h1
      · exact rowsL_int v h1
      · rw [List.mem_singleton.1 h1]; exact hw)
    exact ⟨z, by rw [← hz]; exact (hdown1 w x).symm⟩
  have hq : ∀ a x, x < m → nextB m s.A np k s.d a x = ((s.A a x : Rat) * (p : Rat) - (s.A a k : Rat) * (s.A np x : Rat)) / ((s.d : Int) : Rat) ∨ a = np := by
    intro a x hx
    by_cases ha : a = np
    · exact .inr ha
    · refine .inl ?_
      rw [hBl a ha, zcd hx, zcd hx]
      grind
  have hwholeL : ∀ l, l < np → ∀ x, x < m → ∃ z : Int, ((s.A l x : Rat) * (p : Rat) - (s.A l k : Rat) * (s.A np x : Rat)) / ((s.d : Int) : Rat) = (z : Rat) := by
    intro l hl x hx
    obtain ⟨z, hz⟩ := hint (fun y => if y = s.piv.getD l 0 then 1 else 0) x (fun y => by by_cases hy : y = s.piv.getD l 0; exact ⟨1, if_pos hy⟩; exact ⟨0, if_neg hy⟩)
    rw [zfh (i := l) (by omega) (fun j hj hne => ?_)] at hz
    · simp only [zef (l := s.piv) (k := k) (i := l) (by omega)] at hz
      rw [if_pos trivial] at hz
      rcases hq l x hx with e | e
      · refine ⟨p * (if x = s.piv.getD l 0 then 1 else 0) - z, ?_⟩
        rw [← e, Rat.intCast_sub, Rat.intCast_mul, ← hz]
        split <;> grind
      · omega
    · rcases Nat.lt_or_ge j np with hjn | hjn
      · rw [zef (by omega), if_neg (fun e => ?_)]
        · grind
        · rcases Nat.lt_or_gt_of_ne hne with h1 | h1
          · have := h.asc j l h1 (by omega); omega
          · have := h.asc l j h1 (by omega); omega
      · obtain rfl : j = np := by omega
        have e : (s.piv ++ [k]).getD j 0 = k := by rw [hnp']; exact zel _ _
        rw [e, if_neg (by have := Hlt l hl; omega)]
        grind
  have hrest1 : ∀ i, np < i → i < n → ∀ x, x < m → ((s.A i x : Rat) * (p : Rat) - (s.A i k : Rat) * (s.A np x : Rat)) / ((s.d : Int) : Rat) = ((p : Int) : Rat) * (Ms i x : Rat) - sumN (np + 1) fun l => (Ms i ((s.piv ++ [k]).getD l 0) : Rat) * nextB m s.A np k s.d l x := by
    intro i h1 h2 x hx
    have e1 := Hrest i (by omega) h2 x hx
    have e2 := Hrest i (by omega) h2 k hk
    have ek : (s.piv ++ [k]).getD np 0 = k := by rw [hnp']; exact zel _ _
    rw [sumN, ek, hBnp, zcd hx]
    have e3 : (sumN np fun l => (Ms i ((s.piv ++ [k]).getD l 0) : Rat) * nextB m s.A np k s.d l x) = (((p : Int) : Rat) / ((s.d : Int) : Rat)) * (sumN np fun l => (Ms i (s.piv.getD l 0) : Rat) * (s.A l x : Rat)) + (-((s.A np x : Rat) / ((s.d : Int) : Rat))) * sumN np fun l => (Ms i (s.piv.getD l 0) : Rat) * (s.A l k : Rat) := by
      rw [← zcb, ← zcb, ← sumN_add]
      refine zbg fun l hl => ?_
      rw [zef (by omega), hBl l (by omega), zcd hx, zcd hx]
      grind
    rw [e3]
    have hc := Rat.div_mul_cancel (a := ((p : Int) : Rat)) hd0
    have hc2 := Rat.div_mul_cancel (a := (s.A np x : Rat)) hd0
    have hi : ((s.d : Int) : Rat) * ((s.d : Int) : Rat)⁻¹ = 1 := Rat.mul_inv_cancel _ hd0
    simp only [Rat.div_def] at hc hc2 ⊢
    rw [e1, e2]
    grind
  have hwholeI : ∀ i, np < i → i < n → ∀ x, x < m → ∃ z : Int, ((s.A i x : Rat) * (p : Rat) - (s.A i k : Rat) * (s.A np x : Rat)) / ((s.d : Int) : Rat) = (z : Rat) := by
    intro i h1 h2 x hx
    obtain ⟨z, hz⟩ := hint (rv m (Ms i)) x (rv_int m _)
    refine ⟨z, ?_⟩
    rw [hrest1 i h1 h2 x hx, ← hz, zcd hx]
    congr 1
    refine zbg fun l hl => ?_
    rcases Nat.lt_or_ge l np with hln | hln
    · rw [zef (by omega), zcd (Hpiv l hln)]
    · obtain rfl : l = np := by omega
      have e : (s.piv ++ [k]).getD l 0 = k := by rw [hnp']; exact zel _ _
      rw [e, zcd hk]
  have hwhole : ∀ a, a < n → a ≠ np → ∀ x, x < m → ((zch s.A m np k s.d n a x : Int) : Rat) = ((s.A a x : Rat) * (p : Rat) - (s.A a k : Rat) * (s.A np x : Rat)) / ((s.d : Int) : Rat) := by
    intro a ha hne x hx
    obtain ⟨z, hz⟩ : ∃ z : Int, ((s.A a x : Rat) * (p : Rat) - (s.A a k : Rat) * (s.A np x : Rat)) / ((s.d : Int) : Rat) = (z : Rat) := by
      rcases Nat.lt_or_ge a np with h1 | h1
      · exact hwholeL a h1 x hx
      · exact hwholeI a (by omega) ha x hx
    have e : zch s.A m np k s.d n a x = z := by
      unfold zch crossZ
      rw [if_pos ⟨ha, hne, hx⟩, ← hp']
      refine tdiv_of h.d0 ?_
      rw [Rat.intCast_sub, Rat.intCast_mul, Rat.intCast_mul, hz]
    rw [e, hz]
  have hclrB : ∀ l, l < np + 1 → rv m (zch s.A m np k s.d n l) = nextB m s.A np k s.d l := by
    intro l hl
    funext x
    by_cases hx : x < m
    · rw [zcd hx]
      by_cases hln : l = np
      · subst hln
        rw [clrTo_np, hBnp, zcd hx]
      · rw [hwhole l (by omega) hln x hx]
        rcases hq l x hx with e | e
        · exact e.symm
        · exact absurd e hln
    · rw [zew hx]
      by_cases hln : l = np
      · subst hln
        rw [hBnp, zew hx]
      · rw [hBl l hln, zew hx, zew hx]
        grind
  refine ⟨?_, fun a b ha hb hne => hwhole a ha hne b hb⟩
  refine ⟨h.orig, by show (s.piv ++ [k]).length ≤ n; omega, fun l hl => ?_, fun i j hij hj => ?_, by show 0 < p.natAbs; omega, ?_, fun l hl => ?_, fun l j hl hj => ?_, fun i h1 h2 x hx => ?_, fun i h1 h2 x hx => ?_, fun l hl x hx => ?_⟩
  · show (s.piv ++ [k]).getD l 0 < k + 1
    replace hl : l < np + 1 := by rw [← hlen1]; exact hl
    rcases Nat.lt_or_ge l np with h1 | h1
    · rw [zef (by omega)]; have := Hlt l h1; omega
    · obtain rfl : l = np := by omega
      rw [hnp', zel]; omega
  · show (s.piv ++ [k]).getD i 0 < (s.piv ++ [k]).getD j 0
    replace hj : j < np + 1 := by rw [← hlen1]; exact hj
    rw [zef (by omega)]
    rcases Nat.lt_or_ge j np with h1 | h1
    · rw [zef (by omega)]; exact h.asc i j hij (by omega)
    · obtain rfl : j = np := by omega
      rw [hnp', zel]; exact Hlt i (by omega)
  · show ((p.natAbs : Int) : Rat) = detL (s.piv ++ [k]) (zcy m Ms (s.piv ++ [k]).length)
    rw [hlen1, hpn]; exact hdet1
  · show Spn (zcy m Ms (s.piv ++ [k]).length) (rv m (zch s.A m np k s.d n l))
    replace hl : l < np + 1 := by rw [← hlen1]; exact hl
    rw [hlen1, hclrB l hl]
    exact hspn1 l hl
  · show zch s.A m np k s.d n l ((s.piv ++ [k]).getD j 0) = if l = j then (p.natAbs : Int) else 0
    replace hl : l < np + 1 := by rw [← hlen1]; exact hl
    replace hj : j < np + 1 := by rw [← hlen1]; exact hj
    have hx : (s.piv ++ [k]).getD j 0 < m := by
      rcases Nat.lt_or_ge j np with h1 | h1
      · rw [zef (by omega)]; exact Hpiv j h1
      · obtain rfl : j = np := by omega
        rw [hnp', zel]; exact hk
    have e := congrFun (hclrB l hl) ((s.piv ++ [k]).getD j 0)
    rw [zcd hx, hdia1 l j hl hj] at e
    rw [hpn]
    refine Rat.intCast_inj.1 (e.trans ?_)
    split <;> rfl
  · show ((zch s.A m np k s.d n i x : Int) : Rat) = ((p.natAbs : Int) : Rat) * (Ms i x : Rat) - sumN (s.piv ++ [k]).length fun l => (Ms i ((s.piv ++ [k]).getD l 0) : Rat) * (zch s.A m np k s.d n l x : Rat)
    replace h1 : np + 1 ≤ i := by rw [← hlen1]; exact h1
    rw [hwhole i h2 (by omega) x hx, hrest1 i (by omega) h2 x hx, hlen1, hpn]
    congr 1
    exact zbg fun l hl => by rw [← hclrB l hl, zcd hx]
  · show zch s.A m np k s.d n i x = 0
    replace h1 : np + 1 ≤ i := by rw [← hlen1]; exact h1
    have hxm : x < m := by omega
    refine Rat.intCast_inj.1 ?_
    rw [hwhole i h2 (by omega) x hxm]
    rcases Nat.lt_or_ge x k with hxk | hxk
    · rw [Hzero i (by omega) h2 x hxk, Hzero np (Nat.le_refl _) hnp x hxk]
      grind
    · obtain rfl : x = k := by omega
      rw [← hp']
      grind
  · show zch s.A m np k s.d n l x = 0
    replace hl : l < np + 1 := by rw [← hlen1]; exact hl
    replace hx : x < (s.piv ++ [k]).getD l 0 := hx
    rcases Nat.lt_or_ge l np with h1 | h1
    · rw [zef (by omega)] at hx
      have h2 := Hlt l h1
      refine Rat.intCast_inj.1 ?_
      rw [hwhole l (by omega) (by omega) x (by omega), Hleft l h1 x hx, Hzero np (Nat.le_refl _) hnp x (by omega)]
      grind
    · obtain rfl : l = np := by omega
      have e : (s.piv ++ [k]).getD l 0 = k := by rw [hnp']; exact zel _ _
      rw [e] at hx
      rw [clrTo_np]
      exact Hzero l (Nat.le_refl _) hnp x hx
theorem elim_run (n m : Nat) (A0 : Nat → Nat → Int) : ∀ k, k ≤ m → ∃ Ms, Elim n m A0 k (runK n m A0 k) Ms := by
  intro k
  induction k with
  | zero => intro _; exact ⟨A0, Elim.start n m A0⟩
  | succ k ih =>
    intro hk
    obtain ⟨Ms, h⟩ := ih (by omega)
    rw [runK]
    cases e : zek (runK n m A0 k).A (runK n m A0 k).piv.length n k with
    | none =>
      refine ⟨Ms, h.orig, h.len, fun l hl => Nat.lt_succ_of_lt (h.lt l hl), h.asc, h.d0, h.det, h.spn, h.dia, h.rest, fun i h1 h2 x hx => ?_, h.left⟩
      rcases Nat.lt_or_ge x k with h3 | h3
      · exact h.zero i h1 h2 x h3
      · obtain rfl : x = k := by omega
        unfold zek at e
        rw [List.find?_eq_none] at e
        have := e i (List.mem_range.2 h2)
        simp at this
        exact this h1
    | some r =>
      obtain ⟨h1, h2, h3, _⟩ := zfs e
      have hs := h.swap (by omega) h1 h2
      obtain ⟨Ns, hf⟩ := hs.flip (c := k) (by omega) (show (runK n m A0 k).piv.length < n by omega)
      have hpos : 0 < zdg (swF (runK n m A0 k).A (runK n m A0 k).piv.length r) m (runK n m A0 k).piv.length k (runK n m A0 k).piv.length k := by
        unfold zdg
        split
        · assumption
        · rename_i hn
          unfold zdv
          rw [if_pos ⟨rfl, by omega⟩]
          rw [swF_i] at hn ⊢
          omega
      exact ⟨Ns, (hf.clear (by omega) (show (runK n m A0 k).piv.length < n by omega) hpos).1⟩
theorem Elim.whole {n m : Nat} {A0 : Nat → Nat → Int} {k : Nat} {s : RS} {Ms : Nat → Nat → Int} (h : Elim n m A0 k s Ms) (hk : k ≤ m) {i x : Nat} (hi : i < n) (hx : x < m) (hz : x < k ∨ ∀ j, s.piv.length ≤ j → j < n → s.A j x = 0) : ((s.d : Int) : Rat) * (A0 i x : Rat) = sumN s.piv.length fun l => (A0 i (s.piv.getD l 0) : Rat) * (s.A l x : Rat) := by
  have hd0 : ((s.d : Int) : Rat) ≠ 0 := by
    intro e
    have h1 : (s.d : Int) = 0 := Rat.intCast_inj.1 (by rw [e]; rfl)
    have := h.d0
    omega
  have hpm : ∀ l, l < s.piv.length → s.piv.getD l 0 < m := fun l hl => Nat.lt_of_lt_of_le (h.lt l hl) hk
  obtain ⟨j, hj, t, ht, e⟩ := h.orig i hi
  have key : ((s.d : Int) : Rat) * (Ms j x : Rat) = sumN s.piv.length fun l => (Ms j (s.piv.getD l 0) : Rat) * (s.A l x : Rat) := by
    rcases Nat.lt_or_ge j s.piv.length with h1 | h1
    · have e1 := detL_rest (Ms := zcy m Ms s.piv.length) (cs := s.piv) (A := fun l => rv m (s.A l)) (d := ((s.d : Int) : Rat)) (rowsL_len m Ms _) h.spn (fun l j hl hj => by rw [zcd (hpm j hj), h.dia l j hl hj]; split <;> rfl) h.det hd0 (rv m (Ms j)) x
      rw [detL_row _ (rowsL_mem h1), zcd hx] at e1
      have e2 : (sumN s.piv.length fun l => rv m (Ms j) (s.piv.getD l 0) * rv m (s.A l) x) = sumN s.piv.length fun l => (Ms j (s.piv.getD l 0) : Rat) * (s.A l x : Rat) := zbg fun l hl => by rw [zcd (hpm l hl), zcd hx]
      rw [e2] at e1
      grind
    · have e1 := h.rest j h1 hj x hx
      have e2 : s.A j x = 0 := by
        rcases hz with hz | hz
        · exact h.zero j h1 hj x hz
        · exact hz j h1 hj
      rw [e2] at e1
      grind
  have e3 : (sumN s.piv.length fun l => (A0 i (s.piv.getD l 0) : Rat) * (s.A l x : Rat)) = (t : Rat) * sumN s.piv.length fun l => (Ms j (s.piv.getD l 0) : Rat) * (s.A l x : Rat) := by
    rw [← zcb]
    refine zbg fun l hl => ?_
    rw [e _ (hpm l hl), Rat.intCast_mul]
    grind
  rw [e3, e x hx, Rat.intCast_mul, ← key]
  grind
end Go.Proofs.YtjkgdggkgljdoaaDoor
namespace Go.Proofs.YtjkgdggkgljdoaaDoor
open Go.RowKit
set_option linter.unusedVariables false
theorem wp_makeZ {P : Program} {w : World} {ops : Array Oper} {rest : List Oper} {o : Oper} {a : Act} {Q : Exit → Act → World → Prop} {t e : TypeId} {z : Value} {bytes : Nat} (E : ElT P t e z bytes) (hz1 : z.cells = #[z]) (hg : o.guard = none) (l c : Operand) (hop : o.op = Op.makeSlice t l c) {kl kc : IntKind} {L C : Int} (n : Nat)
    (hl : a.eval l = .int kl L) (hc : a.eval c = .int kc C) (hL : L = (n : Int)) (hC : C = (n : Int)) (hb : n * (bytes + 1) ≤ 140737488355328)
    (hK : ∀ w', Row w' w.heap.size e (List.replicate n z) → Below w.heap.size w w' → Hid (w'.heap.size = w.heap.size + 1) → wpList P ops Q rest (a.put o.dst (.slice (some ⟨w.heap.size, 0, none⟩) n n)) w') :
    wpList P ops Q (o :: rest) a w := by
  obtain ⟨i, h2, h3, h4, hby⟩ := E.info
  rw [Nat.mul_add, Nat.mul_one] at hb
  refine wpList_plain hg fun K hK' => ?_
  have b2 : i.bytes * n ≤ 281474976710656 := by rw [hby, Nat.mul_comm]; omega
  have hb' : (i.bytes : Int) * (n : Int) ≤ 281474976710656 := by
    have h : ((i.bytes * n : Nat) : Int) ≤ 281474976710656 := by omega
    rwa [Int.natCast_mul] at h
  have hr := run_make (P := P) w t e i z E.und h2 h3 kl kc n n (by omega) (Int.le_refl _) hb' (by omega)
  simp only [Int.toNat_natCast] at hr
  subst hL
  subst hC
  unfold Oper.wp
  simp [execOp, hop, hl, hc, hr, Result.andThen]
  refine hK' _ _ (hK _ ?_ ((Below.refl _ _).alloc (Nat.le_refl _) _) (by simp [Hid]))
  unfold Row
  have hm : (List.replicate n z).toArray = madeCells z.cells (n * i.size) := by
    apply Array.ext'
    rw [h4, Nat.mul_one, hz1]
    show _ = (madeCells #[z] n).toList
    rw [toList_madeCells_one]
  rw [hm]
  exact heap_alloc_new w _
end Go.Proofs.YtjkgdggkgljdoaaDoor
namespace Go.Proofs.YtjkgdggkgljdoaaDoor
theorem zem (l : List Rat) (x : Rat) : rawV (l ++ [x]) = rawV l ++ [raw x] := by simp [rawV]
end Go.Proofs.YtjkgdggkgljdoaaDoor
namespace Go.Proofs.YtjkgdggkgljdoaaDoor
open Go.RowKit
set_option linter.unusedVariables false
def colT (M : List (List Rat)) (c : Nat) : List Rat := M.map fun r => r.getD c 0
def zdx (M : List (List Rat)) (m : Nat) : List (List Rat) := (List.range m).map (colT M)
theorem colT_snoc {M : List (List Rat)} {i c : Nat} {r : List Rat} (h : M[i]? = some r) : colT (M.take (i + 1)) c = colT (M.take i) c ++ [r.getD c 0] := by
  rw [zda h, colT, colT, List.map_append]; rfl
theorem colT_len (M : List (List Rat)) (c : Nat) : (colT M c).length = M.length := List.length_map _
def updF {α : Type} (f : Nat → α) (j : Nat) (x : α) : Nat → α := fun c => if c = j then x else f c
theorem updF_j {α : Type} (f : Nat → α) (j : Nat) (x : α) : updF f j x j = x := if_pos rfl
theorem updF_o {α : Type} (f : Nat → α) {j c : Nat} (x : α) (h : c ≠ j) : updF f j x c = f c := if_neg h
theorem range_upd {α : Type} (f : Nat → α) {j n : Nat} (x : α) (h : j < n) : (List.range n).map (updF f j x) = ((List.range n).map f).set j x := by
  apply List.ext_getElem
  · simp
  · intro i h1 h2
    rw [List.getElem_map, List.getElem_range, List.getElem_set]
    simp at h1
    by_cases hi : j = i
    · rw [if_pos hi, hi, updF_j]
    · rw [if_neg hi, updF_o _ _ (Ne.symm hi)]; simp
structure TurnW (w : World) (B m base : Nat) (sl : Nat → Value) (cols : Nat → List Raw) : Prop where
  row : Row w B 29 ((List.range m).map sl)
  own : ∀ c, c < m → OwnS 3 50 IsR w base (fun b => b < base) (sl c) (cols c)
  neB : ∀ c, c < m → (sl c).ownBlock ≠ some B
  sep : ∀ c d, c < m → d < m → c ≠ d → ∀ b, (sl c).ownBlock = some b → (sl d).ownBlock ≠ some b
  hB : base ≤ B
theorem TurnW.grown {w w' : World} {B m base : Nat} {sl : Nat → Value} {cols : Nat → List Raw} (h : TurnW w B m base sl cols) (hb : w.grownBy w' none) : TurnW w' B m base sl cols :=
  ⟨h.row.grownN hb (fun b e => (by cases e)), fun c hc => (h.own c hc).grown IsR.stb hb (fun b e => (by cases e)), h.neB, h.sep, h.hB⟩
theorem TurnW.cols {w : World} {B m base : Nat} {sl : Nat → Value} {cols cols' : Nat → List Raw} (h : TurnW w B m base sl cols) (hc : ∀ c, c < m → cols c = cols' c) : TurnW w B m base sl cols' :=
  ⟨h.row, fun c hm => by rw [← hc c hm]; exact h.own c hm, h.neB, h.sep, h.hB⟩
theorem TurnW.put {w W : World} {B m base j : Nat} {sl : Nat → Value} {cols : Nat → List Raw} {v : Value} {l : List Raw} (h : TurnW w B m base sl cols) (hj : j < m) (hg : w.grownBy W (sl j).ownBlock) (hv : OwnS 3 50 IsR W base (fun b => b < base) v l)
    (ho : v.ownBlock = (sl j).ownBlock ∨ ∃ b, v.ownBlock = some b ∧ w.heap.size ≤ b) : TurnW (W.setCell ⟨B, j, none⟩ v) B m base (updF sl j v) (updF cols j l) := by
  have hBw := h.row.lt
  have hvB : v.ownBlock ≠ some B := by
    rcases ho with e | ⟨b, e, hb⟩
    · rw [e]; exact h.neB j hj
    · rw [e]; intro e'; cases e'; omega
  refine ⟨?_, fun c hc => ?_, fun c hc => ?_, fun c d hc hd hcd b hb => ?_, h.hB⟩
  · rw [range_upd _ _ hj]
    exact (h.row.grownN hg fun b e e' => h.neB j hj (by rw [e, e'])).set_ j v
  · by_cases hcj : c = j
    · subst hcj
      rw [updF_j, updF_j]
      exact hv.grown IsR.stb (zcl W B c v) fun b e => by cases e; exact ⟨hvB, fun hlt => by have := h.hB; omega⟩
    · rw [updF_o _ _ hcj, updF_o _ _ hcj]
      have h1 := (h.own c hc).grown IsR.stb hg fun b e => ⟨h.sep j c hj hc (Ne.symm hcj) b e, fun hlt => by have := (OwnS.own_lt (h.own j hj) b e).1; omega⟩
      exact h1.grown IsR.stb (zcl W B j v) fun b e => by cases e; exact ⟨h.neB c hc, fun hlt => by have := h.hB; omega⟩
  · by_cases hcj : c = j
    · subst hcj; rw [updF_j]; exact hvB
    · rw [updF_o _ _ hcj]; exact h.neB c hc
  · by_cases hcj : c = j
    · subst hcj
      rw [updF_j] at hb
      rw [updF_o _ _ (Ne.symm hcd)]
      rcases ho with e | ⟨b', e, hb'⟩
      · rw [e] at hb; exact h.sep c d hc hd hcd b hb
      · rw [e] at hb; cases hb
        intro e2
        have := (OwnS.own_lt (h.own d hd) _ e2).2
        omega
    · rw [updF_o _ _ hcj] at hb
      by_cases hdj : d = j
      · subst hdj
        rw [updF_j]
        rcases ho with e | ⟨b', e, hb'⟩
        · rw [e]; exact h.sep c d hc hd hcd b hb
        · rw [e]; intro e2; cases e2
          have := (OwnS.own_lt (h.own c hc) _ hb).2
          omega
      · rw [updF_o _ _ hdj]; exact h.sep c d hc hd hcd b hb
theorem TurnW.start {w : World} {B m base : Nat} (h : Row w B 29 (List.replicate m (.slice none 0 0))) (hB : base ≤ B) : TurnW w B m base (fun _ => .slice none 0 0) (fun _ => []) := by
  refine ⟨?_, fun c hc => OwnS.nil fun b hb => Nat.lt_of_lt_of_le hb (Nat.le_trans hB (Nat.le_of_lt h.lt)), fun c hc e => (by cases e), fun c d _ _ _ b e => (by cases e), hB⟩
  rw [show (List.range m).map (fun _ => Value.slice none 0 0) = List.replicate m (.slice none 0 0) by rw [List.map_const', List.length_range]]
  exact h
theorem all2_range {α β : Type} {R : α → β → Prop} {f : Nat → α} {g : Nat → β} {m : Nat} (h : ∀ c, c < m → R (f c) (g c)) : All2 R ((List.range m).map f) ((List.range m).map g) := by
  refine ⟨by simp, fun j x y hx hy => ?_⟩
  rw [List.getElem?_map] at hx hy
  cases hr : (List.range m)[j]? with
  | none => rw [hr] at hx; cases hx
  | some c =>
    rw [hr] at hx hy
    cases hx
    cases hy
    exact h c (by have := List.mem_range.1 (List.mem_of_getElem? hr); exact this)
theorem TurnW.isM {w : World} {B m base : Nat} {sl : Nat → Value} {cols : Nat → List Raw} (h : TurnW w B m base sl cols) (hm : m ≤ 1000) : IsM w (Old w) (.slice (some ⟨B, 0, none⟩) m m) ((List.range m).map cols) := by
  have hw : Wid 1 ((List.range m).map sl) := fun u hu => by
    obtain ⟨c, hc, rfl⟩ := List.mem_map.1 hu
    obtain ⟨A, k, e⟩ := (h.own c (List.mem_range.1 hc)).slice
    rw [e]; rfl
  have hce : cellsOf ((List.range m).map sl) = (List.range m).map sl := by
    have : ∀ l : List Nat, (∀ c ∈ l, c < m) → cellsOf (l.map sl) = l.map sl := fun l => by
      induction l with
      | nil => intro _; rfl
      | cons c l ih =>
        intro hl
        obtain ⟨A, k, e⟩ := (h.own c (hl c (by simp))).slice
        have e2 := ih fun d hd => hl d (by simp [hd])
        unfold cellsOf at e2 ⊢
        rw [List.map_cons, List.flatMap_cons, e2, e]
        rfl
    exact this _ fun c hc => List.mem_range.1 hc
  have hl : ((List.range m).map cols).length = m := by simp
  have h1 := isS_row (n := 1) (R := IsV) (S := Old w) (es := (List.range m).map sl) (l := (List.range m).map cols) (by rw [hce]; exact h.row) h.row.lt hw (all2_range fun c hc => (OwnS.isS IsR.stb (T := Old w) (h.own c hc) (fun b hb => Nat.lt_of_lt_of_le hb (Nat.le_trans h.hB (Nat.le_of_lt h.row.lt))) (fun b _ hb => hb) : IsV w (Old w) (sl c) (cols c))) (by simp; omega)
  rw [hl] at h1
  exact h1
theorem vecZ : ElT Tryd.prog 27 29 (.slice none 0 0) 24 :=
  ⟨Tryd.underlying27, by obtain ⟨i, h1, h2, h3, h4⟩ := info_parts vec_info; exact ⟨i, h1, h2, h3, h4⟩, rfl⟩
def blkT (vj : Value) : Nat → Option Nat := fun k => match k with | 8 => vj.ownBlock | _ => none
theorem open37 {l : List Value} (h : l.length = 37) : ∃ fs : Nat → Value, l = [fs 0, fs 1, fs 2, fs 3, fs 4, fs 5, fs 6, fs 7, fs 8, fs 9, fs 10, fs 11, fs 12, fs 13, fs 14, fs 15, fs 16, fs 17, fs 18, fs 19, fs 20, fs 21, fs 22, fs 23, fs 24, fs 25, fs 26, fs 27, fs 28, fs 29, fs 30, fs 31, fs 32, fs 33, fs 34, fs 35, fs 36] := by
  refine ⟨fun i => l.getD i undef, ?_⟩
  have e : l = (List.range 37).map (fun i => l.getD i undef) := by
    apply List.ext_getElem
    · simp [h]
    · intro i h1 h2
      simp [List.getD_eq_getElem?_getD, List.getElem?_eq_getElem h1]
  exact e.trans rfl
def PhiTu (B j m n0 base : Nat) (S0 : Nat → Prop) (vj : Value) (lj : List Raw) (rx : Raw) (x0 : Bool) (X1 X3 : Option Addr) (x1 X2 x2 X4 : Nat) (i : Nat) (v : Value) (w : World) (X : Nat → Option Value) : Prop :=
  match i with
  | 0 => v = .slice (some ⟨B, 0, none⟩) m m
  | 1 => v = .int .i64 (j : Int)
  | 2 => v = .slice (some ⟨B, 0, none⟩) m m
  | 3 => v = .int .i64 (j : Int)
  | 4 => v = .pointer (some ⟨B, j, none⟩)
  | 5 => v = vj
  | 6 => v = .agg #[.bool x0, .slice X1 x1 X2, .slice X3 x2 X4]
  | 7 => NewRow w n0 50 [.bool x0, .slice X1 x1 X2, .slice X3 x2 X4] v
  | 8 => OwnS 3 50 IsR w base S0 v (lj ++ [rx]) ∧ (v.ownBlock = vj.ownBlock ∨ ∃ b, v.ownBlock = some b ∧ n0 ≤ b)
  | 9 => v = .pointer (some ⟨B, j, none⟩)
  | _ => True
theorem phiTu_st {B j m n0 base : Nat} {S0 : Nat → Prop} {vj : Value} {lj : List Raw} {rx : Raw} {x0 : Bool} {X1 X3 : Option Addr} {x1 X2 x2 X4 : Nat} (hb : ∀ k b, blkT vj k = some b → b < n0) : ∀ i k v (w w' : World) X u, i ≠ k → X k = none → PhiTu B j m n0 base S0 vj lj rx x0 X1 X3 x1 X2 x2 X4 i v w X → w.grownBy w' (blkT vj k) → PhiTu B j m n0 base S0 vj lj rx x0 X1 X3 x1 X2 x2 X4 i v w' (updX X k u) := fun i k v w w' X u hik hX h hE => match i, hik, h with
  | 0, hik, h => h
  | 1, hik, h => h
  | 2, hik, h => h
  | 3, hik, h => h
  | 4, hik, h => h
  | 5, hik, h => h
  | 6, hik, h => h
  | 7, hik, h => h.grown hE fun b e => hb k b e
  | 8, hik, h => ⟨h.1.grown IsR.stb hE fun b e => (by have hk8 : k ≠ 8 := fun e' => hik e'.symm; match k, hk8, e with | 0, _, e | 1, _, e | 2, _, e | 3, _, e | 4, _, e | 5, _, e | 6, _, e | 7, _, e => cases e | 8, h8, _ => exact absurd rfl h8 | _ + 9, _, e => cases e), h.2⟩
  | 9, hik, h => h
  | _ + 10, _, _ => trivial
set_option maxRecDepth 100000 in
set_option maxHeartbeats 4000000 in
theorem turned_l {w : World} {v : Value} {M : List (List Rat)} {n m : Nat} (h : IsM w (Old w) v (rawM M)) (hn : M.length = n) (hrow : ∀ r ∈ M, r.length = m) (hn1 : 1 ≤ n) (hn9 : n ≤ 40) (hm9 : m ≤ 40) :
    Calls Tryd.prog 85 #[v] w fun e w' => (∃ v', e = .returned v' ∧ IsM w' (Old w') v' (rawM (zdx M m))) ∧ Below w.heap.size w w' := by
  have HM := Lib.hid h
  have Hn := Lib.hid hn
  have Hrow := Lib.hid hrow
  have hcol : Hid (((rawM M).headD []).length = m) := by
    rw [Hid]
    cases M with
    | nil => simp at hn; omega
    | cons a t => simp only [rawM, List.map_cons, List.headD_cons]; rw [zbi]; exact hrow a (by simp)
  obtain ⟨A, cA, rfl, _⟩ := zca h
  have eln : (rawM M).length = n := by rw [zbs]; exact hn
  rw [eln] at HM
  rw [eln]
  clear h hn hrow eln
  obtain ⟨base, hbase⟩ : ∃ b, b = w.heap.size := ⟨_, rfl⟩
  have Hbase := Lib.hid hbase
  have HOld : Hid (∀ b, Old w b → b < base) := by rw [Hid, hbase]; exact fun b hb => hb
  clear hbase
  go_enter Tryd.func85, Tryd.ntmps85
  go_wp2_with fail
  refine (zfr HM.out).mono ?_
  rw [hcol.out]
  rintro e w1 ⟨rfl, rfl⟩
  go_wp2_with (at_make; refine wp_makeZ vecZ rfl rfl _ _ rfl m rfl rfl rfl rfl (by omega) ?_; intro w2 hr2 hb2 hz2)
  obtain ⟨B, hB⟩ : ∃ b, b = w.heap.size := ⟨_, rfl⟩
  rw [← hB] at hr2 ⊢
  have HB2 := Lib.hid hb2
  have HBB := Lib.hid hB
  have HT2 := Lib.hid (TurnW.start (base := base) hr2 (by rw [hB, Hbase.out]; exact Nat.le_refl _))
  clear hr2 hb2 hz2 hB
  go_loopw [13, 5, 6, 7] (fun ii _ _ _ wr => ∃ (i : Nat) (sl : Nat → Value), i ≤ n ∧ ii = .int .i64 (i : Int) ∧ Below w.heap.size w wr ∧ Hid (TurnW wr B m base sl fun c => rawV (colT (M.take i) c))) (fun ii _ _ _ _ => n - (intOf ii).toNat)
  case atStart => exact ⟨0, _, Nat.zero_le _, rfl, HB2.out, HT2.out⟩
  case round =>
    obtain ⟨i, sl, hi, rfl, hbw, hT⟩ := hrel
    have Hbw := Lib.hid hbw
    have HT := Lib.hid hT.out
    clear hT
    rcases Nat.lt_or_ge i n with hlt | hge
    · obtain ⟨r, hr, hrr⟩ := zeg (m := M) (j := i) (by rw [Hn.out]; exact hlt)
      obtain ⟨b1, o1, R, cR, rfl, hSb1, helr, c0⟩ := zcr HM.out hrr
      have elr : (rawV r).length = m := by rw [zbi]; exact Hrow.out r (List.mem_of_getElem? hr)
      rw [elr] at c0 helr
      replace c0 := hbw.cell (p := ⟨b1, o1 + i, none⟩) hSb1 |>.trans c0
      have HV := Lib.hid helr
      have HR := Lib.hid hr
      have Hlr : Hid (r.length = m) := Hrow.out r (List.mem_of_getElem? hr)
      have hk0 : (0 : Int) ≤ (i : Int) := by omega
      have hk1 : (i : Int) < (n : Int) := by omega
      have Hlt := Lib.hid hlt
      clear hr hrr helr elr hbw hSb1
      go_wp2_with fail
      clear c0
      go_loopw [19, 6, 7] (fun jj _ _ wr => ∃ (j : Nat) (sl : Nat → Value) (cols : Nat → List Raw), j ≤ m ∧ jj = .int .i64 (j : Int) ∧ Below w.heap.size w wr ∧ Hid (TurnW wr B m base sl cols ∧ ∀ c, cols c = rawV (if c < j then colT (M.take (i + 1)) c else colT (M.take i) c))) (fun jj _ _ _ => m - (intOf jj).toNat)
      case atStart => exact ⟨0, sl, fun c => rawV (colT (M.take i) c), Nat.zero_le _, rfl, Hbw.out, HT.out, fun c => by rw [if_neg (Nat.not_lt_zero _)]⟩
      case round =>
        clear HT
        obtain ⟨j, sl, cols, hj, rfl, hbj, hTj⟩ := hrel
        have Hbj := Lib.hid hbj
        have HTj := Lib.hid hTj.out.1
        have Hcj := Lib.hid hTj.out.2
        clear hTj
        rcases Nat.lt_or_ge j m with hjm | hjm
        · obtain ⟨x, hx, hrx⟩ := zeh (l := r) (j := j) (by rw [Hlr.out]; exact hjm)
          obtain ⟨b2, o2, X1, X2, X3, X4, rfl, hSb2, helx, d0, d1, d2⟩ := zdn HV.out hrx
          obtain ⟨x0, hx0⟩ : ∃ s, s = (raw x).neg := ⟨_, rfl⟩
          obtain ⟨x1, hx1⟩ : ∃ s, s = (raw x).num.length := ⟨_, rfl⟩
          obtain ⟨x2, hx2⟩ : ∃ s, s = (raw x).den.length := ⟨_, rfl⟩
          rw [← hx0] at d0
          rw [← hx1] at d1
          rw [← hx2] at d2
          rw [← hx0, ← hx1, ← hx2] at helx
          replace d0 := hbj.cell (p := ⟨b2, o2 + j * 3, none⟩) hSb2 |>.trans d0
          replace d1 := hbj.cell (p := ⟨b2, o2 + j * 3 + 1, none⟩) hSb2 |>.trans d1
          replace d2 := hbj.cell (p := ⟨b2, o2 + j * 3 + 2, none⟩) hSb2 |>.trans d2
          have Qx0 := Lib.hid helx
          have Hx := Lib.hid hx
          have cr := zbr
          have hj0 : (0 : Int) ≤ (j : Int) := by omega
          have hj1 : (j : Int) < (m : Int) := by omega
          have Hjm := Lib.hid hjm
          obtain ⟨wx, hwx⟩ : ∃ x, x = wr.alloc (.cells #[.bool x0, .slice X1 x1 X2, .slice X3 x2 X4] 50) := ⟨_, rfl⟩
          have hbx : Below wr.heap.size wr wx := by rw [hwx]; exact zbt _ _
          have hrx : Row wx wr.heap.size 50 [.bool x0, .slice X1 x1 X2, .slice X3 x2 X4] := by rw [hwx]; exact heap_alloc_new _ _
          clear hx helx hx0 hx1 hx2 hSb2 hbj
          go_wp2_with fail
          rw [← hwx]
          obtain ⟨wd, hwd⟩ : ∃ x, x = wx.drew := ⟨_, rfl⟩
          have hbd : Below wr.heap.size wr wd := by rw [hwd]; exact zaa hbx (zab _)
          have BD := Lib.hid hbd
          have Hwd := Lib.hid hwd
          have HTd := Lib.hid (HTj.out.grown (zbe hbd))
          have RX : Hid (Row wd wr.heap.size 50 [.bool x0, .slice X1 x1 X2, .slice X3 x2 X4]) := by rw [Hid, hwd]; exact hrx
          have Bwd := Lib.hid (zaa Hbj.out hbd)
          have HBd : Hid (base ≤ wd.heap.size ∧ ∀ b, b < base → some b ≠ (sl j).ownBlock) := ⟨by rw [Hbase.out]; exact Bwd.out.size, fun b hb e => by have := (OwnS.own_lt (HTd.out.own j Hjm.out) b e.symm).1; omega⟩
          have Qx : Hid (IsR wd (fun b => b < base) (.agg #[.bool x0, .slice X1 x1 X2, .slice X3 x2 X4]) (raw x)) := IsR.stb.to Qx0.out fun b hb => ⟨HOld.out b hb, fun o => Bwd.out.cell (p := ⟨b, o, none⟩) hb⟩
          have HLj : Hid ((cols j).length ≤ 100) := by
            rw [Hid, Hcj.out, if_neg (Nat.lt_irrefl _), zbi, colT_len]
            have := List.length_take_le i M
            have := Hlt.out
            omega
          have keepj : ∀ W : World, wd.grownBy W (sl j).ownBlock → W.cell? ⟨B, j, none⟩ = some (sl j) := fun W hJ =>
            ((HTd.out.row.grownN hJ fun b e e' => HTd.out.neB j Hjm.out (by rw [e, e'])).cell j).trans (by simp [Hjm.out])
          have keepx : ∀ W : World, wd.grownBy W (sl j).ownBlock → W.cell? ⟨wr.heap.size, 0, none⟩ = some (.bool x0) ∧ W.cell? ⟨wr.heap.size, 1, none⟩ = some (.slice X1 x1 X2) ∧ W.cell? ⟨wr.heap.size, 2, none⟩ = some (.slice X3 x2 X4) := fun W hJ =>
            zad (RX.out.grownN hJ fun b e e' => by have := (OwnS.own_lt (HTj.out.own j Hjm.out) b e).2; omega)
          clear hwx hbx hrx hwd hbd d0 d1 d2
          refine region_abs fun ops hops => ?_
          have oq0 := zax (j := 0) hops rfl
          have oq1 := zax (j := 1) hops rfl
          have oq2 := zax (j := 2) hops rfl
          have oq3 := zax (j := 3) hops rfl
          have oq4 := zax (j := 4) hops rfl
          have oq5 := zax (j := 5) hops rfl
          have oq6 := zax (j := 6) hops rfl
          have oq7 := zax (j := 7) hops rfl
          have oq8 := zax (j := 8) hops rfl
          have oq9 := zax (j := 9) hops rfl
          have oq10 := zax (j := 10) hops rfl
          have fr := fun t h => zey (n := 10) hops t h
          refine zfk 10 (PhiTu B j m wd.heap.size base (fun b => b < base) (sl j) (cols j) (raw x) x0 X1 X3 x1 X2 x2 X4) (fun i W => i = 8 → OwnS 3 50 IsR W base (fun b => b < base) (sl j) (cols j)) (fun W => wd.grownBy W (sl j).ownBlock) (fun k w w' => w.grownBy w' ((fun k => match k with | 8 => (sl j).ownBlock | _ => none) k)) (by kernel_rfl) ?hJ0 ?hP0 ?hPs ?hst (by rw [hops]; kernel_rfl) (by rw [hops]; kernel_rfl) ?step ?fin
          case hJ0 => rw [← Hwd.out]; exact zak _ _
          case hP0 => exact fun i _ => by rw [← Hwd.out]; exact HTd.out.own j Hjm.out
          case hPs =>
            intro i k wa wb hik h hJ hE hi8
            refine (h hi8).grown IsR.stb hE fun b e => ?_
            have hk8 : k ≠ 8 := fun e' => hik (hi8.trans e'.symm)
            replace e : blkT (sl j) k = some b := e
            match k, hk8, e with
            | 0, _, e | 1, _, e | 2, _, e | 3, _, e | 4, _, e | 5, _, e | 6, _, e | 7, _, e => cases e
            | 8, h8, _ => exact absurd rfl h8
            | _ + 9, _, e => cases e
          case hst => exact fun i k v wa wb X u hik hX h hJ hE => phiTu_st (vj := sl j) (fun k b e => by
            match k, e with
            | 0, e | 1, e | 2, e | 3, e | 4, e | 5, e | 6, e | 7, e => cases e
            | 8, e => exact (OwnS.own_lt (HTd.out.own j Hjm.out) b e).2
            | _ + 9, e => cases e) i k v wa wb X u hik hX h hE
          case step =>
            intro i o hin hi a W X hsz hdf hJ hP hXi hfree hdep
            obtain ⟨T, df⟩ := a
            replace hsz : T.size = 37 := hsz
            obtain rfl : df = [] := hdf
            match i, hin, hi, hXi, hP with
            | 0, _, hi, hXi, hP =>
              obtain rfl := Option.some.inj (oq0.symm.trans hi)
              have e3 : T[3]? = some (.slice (some ⟨B, 0, none⟩) m m) := hfree 3 (fr 3 (by kernel_rfl))
              refine zaj rfl ?_
              refine zao (E := fun w' => W.grownBy w' (none)) (Φ := PhiTu B j m wd.heap.size base (fun b => b < base) (sl j) (cols j) (raw x) x0 X1 X3 x1 X2 x2 X4 0) fun K hK => ?_
              clear hdep hfree hsz hops fr oq0 oq1 oq2 oq3 oq4 oq5 oq6 oq7 oq8 oq9 oq10
              go_simp
              exact hK (.slice (some ⟨B, 0, none⟩) m m) _ (zak _ _) hJ rfl
            | 1, _, hi, hXi, hP =>
              obtain rfl := Option.some.inj (oq1.symm.trans hi)
              have e6 : T[6]? = some (.int .i64 (j : Int)) := hfree 6 (fr 6 (by kernel_rfl))
              refine zaj rfl ?_
              refine zao (E := fun w' => W.grownBy w' (none)) (Φ := PhiTu B j m wd.heap.size base (fun b => b < base) (sl j) (cols j) (raw x) x0 X1 X3 x1 X2 x2 X4 1) fun K hK => ?_
              clear hdep hfree hsz hops fr oq0 oq1 oq2 oq3 oq4 oq5 oq6 oq7 oq8 oq9 oq10
              go_simp
              exact hK (.int .i64 (j : Int)) _ (zak _ _) hJ rfl
            | 2, _, hi, hXi, hP =>
              obtain rfl := Option.some.inj (oq2.symm.trans hi)
              have e3 : T[3]? = some (.slice (some ⟨B, 0, none⟩) m m) := hfree 3 (fr 3 (by kernel_rfl))
              refine zaj rfl ?_
              refine zao (E := fun w' => W.grownBy w' (none)) (Φ := PhiTu B j m wd.heap.size base (fun b => b < base) (sl j) (cols j) (raw x) x0 X1 X3 x1 X2 x2 X4 2) fun K hK => ?_
              clear hdep hfree hsz hops fr oq0 oq1 oq2 oq3 oq4 oq5 oq6 oq7 oq8 oq9 oq10
              go_simp
              exact hK (.slice (some ⟨B, 0, none⟩) m m) _ (zak _ _) hJ rfl
            | 3, _, hi, hXi, hP =>
              obtain rfl := Option.some.inj (oq3.symm.trans hi)
              have e6 : T[6]? = some (.int .i64 (j : Int)) := hfree 6 (fr 6 (by kernel_rfl))
              refine zaj rfl ?_
              refine zao (E := fun w' => W.grownBy w' (none)) (Φ := PhiTu B j m wd.heap.size base (fun b => b < base) (sl j) (cols j) (raw x) x0 X1 X3 x1 X2 x2 X4 3) fun K hK => ?_
              clear hdep hfree hsz hops fr oq0 oq1 oq2 oq3 oq4 oq5 oq6 oq7 oq8 oq9 oq10
              go_simp
              exact hK (.int .i64 (j : Int)) _ (zak _ _) hJ rfl
            | 4, _, hi, hXi, hP =>
              obtain rfl := Option.some.inj (oq4.symm.trans hi)
              have d26 : (T.getD 26 undef) = .slice (some ⟨B, 0, none⟩) m m := (hdep 2 _ (odt (by kernel_rfl)) oq2).2
              have e26 := zan (by omega) d26
              clear d26
              have d27 : (T.getD 27 undef) = .int .i64 (j : Int) := (hdep 3 _ (odt (by kernel_rfl)) oq3).2
              have e27 := zan (by omega) d27
              clear d27
              refine zaj rfl ?_
              refine zao (E := fun w' => W.grownBy w' (none)) (Φ := PhiTu B j m wd.heap.size base (fun b => b < base) (sl j) (cols j) (raw x) x0 X1 X3 x1 X2 x2 X4 4) fun K hK => ?_
              clear hdep hfree hsz hops fr oq0 oq1 oq2 oq3 oq4 oq5 oq6 oq7 oq8 oq9 oq10
              go_simp
              exact hK (.pointer (some ⟨B, j, none⟩)) _ (zak _ _) hJ rfl
            | 5, _, hi, hXi, hP =>
              obtain rfl := Option.some.inj (oq5.symm.trans hi)
              have d28 : (T.getD 28 undef) = .pointer (some ⟨B, j, none⟩) := (hdep 4 _ (odt (by kernel_rfl)) oq4).2
              have e28 := zan (by omega) d28
              clear d28
              refine zaj rfl ?_
              refine zao (E := fun w' => W.grownBy w' (none)) (Φ := PhiTu B j m wd.heap.size base (fun b => b < base) (sl j) (cols j) (raw x) x0 X1 X3 x1 X2 x2 X4 5) fun K hK => ?_
              clear hdep hfree hsz hops fr oq0 oq1 oq2 oq3 oq4 oq5 oq6 oq7 oq8 oq9 oq10
              have h0 := keepj W hJ
              go_simp
              exact hK (sl j) _ (zak _ _) hJ rfl
            | 6, _, hi, hXi, hP =>
              obtain rfl := Option.some.inj (oq6.symm.trans hi)
              have e7 : T[7]? = some (.pointer (some ⟨wr.heap.size, 0, none⟩)) := hfree 7 (fr 7 (by kernel_rfl))
              refine zaj rfl ?_
              refine zao (E := fun w' => W.grownBy w' (none)) (Φ := PhiTu B j m wd.heap.size base (fun b => b < base) (sl j) (cols j) (raw x) x0 X1 X3 x1 X2 x2 X4 6) fun K hK => ?_
              clear hdep hfree hsz hops fr oq0 oq1 oq2 oq3 oq4 oq5 oq6 oq7 oq8 oq9 oq10
              obtain ⟨h0, h1, h2⟩ := keepx W hJ
              go_simp
              exact hK (.agg #[.bool x0, .slice X1 x1 X2, .slice X3 x2 X4]) _ (zak _ _) hJ rfl
            | 7, _, hi, hXi, hP =>
              obtain rfl := Option.some.inj (oq7.symm.trans hi)
              have d30 : (T.getD 30 undef) = .agg #[.bool x0, .slice X1 x1 X2, .slice X3 x2 X4] := (hdep 6 _ (odt (by kernel_rfl)) oq6).2
              have e30 := zan (by omega) d30
              clear d30
              refine zaj rfl ?_
              refine zao (E := fun w' => W.grownBy w' (none)) (Φ := PhiTu B j m wd.heap.size base (fun b => b < base) (sl j) (cols j) (raw x) x0 X1 X3 x1 X2 x2 X4 7) fun K hK => ?_
              clear hdep hfree hsz hops fr oq0 oq1 oq2 oq3 oq4 oq5 oq6 oq7 oq8 oq9 oq10
              go_simp
              exact hK (.slice (some ⟨W.heap.size, 0, none⟩) 1 1) _ (zdh _ _ _) (zap hJ (zdh _ _ _)) ⟨W.heap.size, rfl, hJ.size, heap_alloc_new _ _⟩
            | 8, _, hi, hXi, hP =>
              obtain rfl := Option.some.inj (oq8.symm.trans hi)
              have d29 : (T.getD 29 undef) = sl j := (hdep 5 _ (odt (by kernel_rfl)) oq5).2
              have e29 := zan (by omega) d29
              clear d29
              have d31 : NewRow W wd.heap.size 50 [.bool x0, .slice X1 x1 X2, .slice X3 x2 X4] (T.getD 31 undef) := (hdep 7 _ (odt (by kernel_rfl)) oq7).2
              obtain ⟨v31, e31, g31⟩ := zci (T := T) (t := 31) (by omega)
              rw [g31] at d31
              clear g31
              refine zaj rfl ?_
              refine zao (E := fun w' => W.grownBy w' ((sl j).ownBlock)) (Φ := PhiTu B j m wd.heap.size base (fun b => b < base) (sl j) (cols j) (raw x) x0 X1 X3 x1 X2 x2 X4 8) fun K hK => ?_
              clear hdep hfree hsz hops fr oq0 oq1 oq2 oq3 oq4 oq5 oq6 oq7 oq8 oq9 oq10
              obtain ⟨h31, rfl, hh1, hh2⟩ := d31
              refine step_appG elR (.tmp 29) (.tmp 31) rfl IsR.stb (zei e29) (zei e31) (ev := .agg #[.bool x0, .slice X1 x1 X2, .slice X3 x2 X4]) (y := raw x) hh2 (hP rfl) (IsR.stb.to Qx.out (zex hJ fun b hb => ⟨Nat.lt_of_lt_of_le hb HBd.out.1, HBd.out.2 b hb⟩)) rfl (by intro u hu; simp [Value.cells] at hu; rcases hu with rfl | rfl | rfl <;> rfl) (by have := HLj.out; omega) (Nat.le_trans HBd.out.1 hJ.size) fun v' w' k1 k2 k3 => hK v' w' k2 (zap hJ k2) ⟨k1, k3.imp id fun h => ⟨_, h, hJ.size⟩⟩
            | 9, _, hi, hXi, hP =>
              obtain rfl := Option.some.inj (oq9.symm.trans hi)
              have d24 : (T.getD 24 undef) = .slice (some ⟨B, 0, none⟩) m m := (hdep 0 _ (odt (by kernel_rfl)) oq0).2
              have e24 := zan (by omega) d24
              clear d24
              have d25 : (T.getD 25 undef) = .int .i64 (j : Int) := (hdep 1 _ (odt (by kernel_rfl)) oq1).2
              have e25 := zan (by omega) d25
              clear d25
              refine zaj rfl ?_
              refine zao (E := fun w' => W.grownBy w' (none)) (Φ := PhiTu B j m wd.heap.size base (fun b => b < base) (sl j) (cols j) (raw x) x0 X1 X3 x1 X2 x2 X4 9) fun K hK => ?_
              clear hdep hfree hsz hops fr oq0 oq1 oq2 oq3 oq4 oq5 oq6 oq7 oq8 oq9 oq10
              go_simp
              exact hK (.pointer (some ⟨B, j, none⟩)) _ (zak _ _) hJ rfl
            | i + 10, hin, hi, hXi, hP => exact absurd hin (by omega)
          case fin =>
            intro a W X hsz hdf hJ hfree hall
            obtain ⟨⟨l⟩, df⟩ := a
            replace hsz : l.length = 37 := hsz
            obtain ⟨fs, rfl⟩ := open37 hsz
            obtain rfl : df = [] := hdf
            have bs0 : fs 0 = .slice (some ⟨b1, o1, none⟩) n cA := Option.some.inj (hfree 0 (fr 0 (by kernel_rfl)))
            have bs1 : fs 1 = undef := Option.some.inj (hfree 1 (fr 1 (by kernel_rfl)))
            have bs2 : fs 2 = .slice none 0 0 := Option.some.inj (hfree 2 (fr 2 (by kernel_rfl)))
            have bs3 : fs 3 = .slice (some ⟨B, 0, none⟩) m m := Option.some.inj (hfree 3 (fr 3 (by kernel_rfl)))
            have bs4 : fs 4 = undef := Option.some.inj (hfree 4 (fr 4 (by kernel_rfl)))
            have bs5 : fs 5 = .slice (some ⟨b2, o2, none⟩) m cR := Option.some.inj (hfree 5 (fr 5 (by kernel_rfl)))
            have bs6 : fs 6 = .int .i64 (j : Int) := Option.some.inj (hfree 6 (fr 6 (by kernel_rfl)))
            have bs7 : fs 7 = .pointer (some ⟨wr.heap.size, 0, none⟩) := Option.some.inj (hfree 7 (fr 7 (by kernel_rfl)))
            have bs8 : fs 8 = .slice (some ⟨b1, o1, none⟩) n cA := Option.some.inj (hfree 8 (fr 8 (by kernel_rfl)))
            have bs9 : fs 9 = .int .i64 (m : Int) := Option.some.inj (hfree 9 (fr 9 (by kernel_rfl)))
            have bs10 : fs 10 = .slice (some ⟨B, 0, none⟩) m m := Option.some.inj (hfree 10 (fr 10 (by kernel_rfl)))
            have bs11 : fs 11 = .slice (some ⟨b1, o1, none⟩) n cA := Option.some.inj (hfree 11 (fr 11 (by kernel_rfl)))
            have bs12 : fs 12 = .int .i64 (n : Int) := Option.some.inj (hfree 12 (fr 12 (by kernel_rfl)))
            have bs13 : fs 13 = .int .i64 (i : Int) := Option.some.inj (hfree 13 (fr 13 (by kernel_rfl)))
            have bs14 : fs 14 = .bool true := Option.some.inj (hfree 14 (fr 14 (by kernel_rfl)))
            have bs15 : fs 15 = .pointer (some ⟨b1, (o1 + i), none⟩) := Option.some.inj (hfree 15 (fr 15 (by kernel_rfl)))
            have bs16 : fs 16 = .slice (some ⟨b2, o2, none⟩) m cR := Option.some.inj (hfree 16 (fr 16 (by kernel_rfl)))
            have bs17 : fs 17 = .slice (some ⟨b2, o2, none⟩) m cR := Option.some.inj (hfree 17 (fr 17 (by kernel_rfl)))
            have bs18 : fs 18 = .int .i64 (m : Int) := Option.some.inj (hfree 18 (fr 18 (by kernel_rfl)))
            have bs19 : fs 19 = .int .i64 (j : Int) := Option.some.inj (hfree 19 (fr 19 (by kernel_rfl)))
            have bs35 : fs 35 = u35 := Option.some.inj (hfree 35 (fr 35 (by kernel_rfl)))
            have bs36 : fs 36 = undef := Option.some.inj (hfree 36 (fr 36 (by kernel_rfl)))
            have x32 : X 8 = some (fs 32) := (hall 8 _ (by omega) oq8).1
            have q32 : OwnS 3 50 IsR W base (fun b => b < base) (fs 32) (cols j ++ [raw x]) ∧ ((fs 32).ownBlock = (sl j).ownBlock ∨ ∃ b, (fs 32).ownBlock = some b ∧ wd.heap.size ≤ b) := (hall 8 _ (by omega) oq8).2
            have x33 : X 9 = some (fs 33) := (hall 9 _ (by omega) oq9).1
            have q33 : (fs 33) = .pointer (some ⟨B, j, none⟩) := (hall 9 _ (by omega) oq9).2
            clear x33
            clear hall hfree hsz
            rw [hops]
            clear hops fr oq0 oq1 oq2 oq3 oq4 oq5 oq6 oq7 oq8 oq9 oq10
            rw [bs0, bs1, bs2, bs3, bs4, bs5, bs6, bs7, bs8, bs9, bs10, bs11, bs12, bs13, bs14, bs15, bs16, bs17, bs18, bs19, bs35, bs36, q33]
            clear bs0 bs1 bs2 bs3 bs4 bs5 bs6 bs7 bs8 bs9 bs10 bs11 bs12 bs13 bs14 bs15 bs16 bs17 bs18 bs19 bs35 bs36 q33
            obtain ⟨t32, ht32⟩ : ∃ t, t = fs 32 := ⟨_, rfl⟩
            rw [← ht32] at q32 x32 ⊢
            clear ht32
            have h0 := keepj W hJ
            obtain ⟨P32, k32, e32⟩ := q32.1.slice
            rw [List.length_append] at e32
            subst e32
            have Q32 := Lib.hid q32
            have HJ := Lib.hid hJ
            have hbz := HTd.out.row
            have hfz : W.frozen? ⟨B, j, none⟩ = false := (HTd.out.row.grownN hJ fun b e e' => HTd.out.neB j Hjm.out (by rw [e, e'])).frozen j
            clear q32 x32
            show wpList _ _ _ [_] _ _
            go_wp2_with fail
            clear h0
            go_roundw
            case rel =>
              have hput := HTd.out.put Hjm.out HJ.out Q32.out.1 Q32.out.2
              refine ⟨j + 1, _, _, Hjm.out, by go_num, ?_, hput, fun c => ?_⟩
              · exact ((Bwd.out.grown HJ.out Bwd.out.size fun b e => by have := (OwnS.own_lt (HTd.out.own j Hjm.out) b e).1; rw [Hbase.out] at this; exact this).setCell (p := ⟨B, j, none⟩) (by show w.heap.size ≤ B; rw [HBB.out]; exact Nat.le_refl _) _)
              · by_cases hcj : c = j
                · subst hcj
                  rw [updF_j, Hcj.out, if_neg (Nat.lt_irrefl _), if_pos (Nat.lt_succ_self _), colT_snoc HR.out, zem, List.getD_eq_getElem?_getD, Hx.out]
                  rfl
                · rw [updF_o _ _ hcj, Hcj.out]
                  by_cases hc2 : c < j
                  · rw [if_pos hc2, if_pos (by omega)]
                  · rw [if_neg hc2, if_neg (by omega)]
            case measure => have := Hjm.out; simp [intOf]; omega
        · obtain rfl : j = m := by omega
          clear hbj
          go_wp2_with fail
          go_roundw
          case rel => exact ⟨i + 1, sl, Hlt.out, by go_num, Hbj.out, HTj.out.cols fun c hc => by rw [Hcj.out, if_pos hc]⟩
          case measure => have := Hlt.out; simp [intOf]; omega
    · obtain rfl : i = n := by omega
      have e : M.take i = M := List.take_of_length_le (by rw [Hn.out]; exact Nat.le_refl _)
      rw [e] at HT
      clear hbw e
      go_wp2_with fail
      go_ret
      have hM := HT.out.isM (by omega)
      refine ⟨⟨_, rfl, ?_⟩, Hbw.out⟩
      have e : rawM (zdx M m) = (List.range m).map fun c => rawV (colT M c) := by rw [rawM, zdx, List.map_map]; rfl
      rw [e]
      exact hM
end Go.Proofs.YtjkgdggkgljdoaaDoor
