/-
  Lists that came in, as what they read.
-/
import Derived.Test.YtblpaocignlpkaaDoorVkrn09
import Derived.Test.YtblpaocignlpkaaDoorVkrn02
import Derived.Test.YtblpaocignlpkaaDoorVkrn14
import Derived.Test.YtblpaocignlpkaaDoorVkrn01
import Derived.Test.YtblpaocignlpkaaDoorVkrn07
import Derived.Test.YtblpaocignlpkaaDoorVkrn11
import Derived.Test.YtblpaocignlpkaaDoorVkrn06
import Derived.Test.YtblpaocignlpkaaDoorVkrn18
import Derived.Test.YtblpaocignlpkaaDoorVkrn16
import Derived.BigQuiet
namespace Go.Proofs.YtblpaocignlpkaaDoor
open Go.RowKit Go.WideShapes Go.ChangeShapes Go.Deep
set_option linter.unusedVariables false
section
variable {H : Type} {enc : TypeId × Value → H} {w : World} {base base0 : Nat} {sp : Nat → Bool} {held : Bool}
end
end Go.Proofs.YtblpaocignlpkaaDoor
namespace Go.Proofs.YtblpaocignlpkaaDoor
set_option linter.unusedVariables false
abbrev RV := Nat → Rat
def altS (F : List RV → Rat) (c : Nat) : List RV → List RV → Rat
  | _, [] => 0
  | pre, v :: post => v c * F (pre ++ post) - altS F c (pre ++ [v]) post
def detL : List Nat → List RV → Rat
  | [], [] => 1
  | [], _ :: _ => 0
  | c :: cs, rows => altS (detL cs) c [] rows
def LinF (F : List RV → Rat) : Prop := ∀ (P Q : List RV) (u v : RV) (a b : Rat), F (P ++ (fun x => a * u x + b * v x) :: Q) = a * F (P ++ u :: Q) + b * F (P ++ v :: Q)
def AltF (F : List RV → Rat) : Prop := ∀ (P Q : List RV) (u : RV), F (P ++ u :: u :: Q) = 0
theorem altS_linP {F : List RV → Rat} (h : LinF F) (c : Nat) (u v : RV) (a b : Rat) (Q : List RV) : ∀ X Y : List RV, altS F c (X ++ (fun x => a * u x + b * v x) :: Y) Q = a * altS F c (X ++ u :: Y) Q + b * altS F c (X ++ v :: Y) Q := by
  induction Q with
  | nil => intro X Y; simp only [altS]; grind
  | cons q Q ih =>
    intro X Y
    have h1 := h X (Y ++ Q) u v a b
    have h2 := ih X (Y ++ [q])
    simp only [altS, List.append_assoc, List.cons_append] at h1 h2 ⊢
    rw [h1, h2]
    grind
theorem altS_lin {F : List RV → Rat} (h : LinF F) (c : Nat) (P Q : List RV) (u v : RV) (a b : Rat) : ∀ pre : List RV, altS F c pre (P ++ (fun x => a * u x + b * v x) :: Q) = a * altS F c pre (P ++ u :: Q) + b * altS F c pre (P ++ v :: Q) := by
  induction P with
  | nil =>
    intro pre
    have h1 := altS_linP h c u v a b Q pre []
    simp only [altS, List.nil_append] at h1 ⊢
    rw [h1]
    grind
  | cons p P ih =>
    intro pre
    have h1 := h (pre ++ P) Q u v a b
    have h2 := ih (pre ++ [p])
    simp only [altS, List.append_assoc, List.cons_append] at h1 h2 ⊢
    rw [h1, h2]
    grind
theorem detL_lin (cs : List Nat) : LinF (detL cs) := by
  induction cs with
  | nil =>
    intro P Q u v a b
    have e : ∀ w : RV, detL [] (P ++ w :: Q) = 0 := fun w => by cases P <;> rfl
    rw [e, e, e]
    grind
  | cons c cs ih => intro P Q u v a b; exact altS_lin ih c P Q u v a b []
theorem altS_altP {F : List RV → Rat} (h : AltF F) (c : Nat) (u : RV) (Q : List RV) : ∀ X Y : List RV, altS F c (X ++ u :: u :: Y) Q = 0 := by
  induction Q with
  | nil => intro X Y; rfl
  | cons q Q ih =>
    intro X Y
    have h1 := h X (Y ++ Q) u
    have h2 := ih X (Y ++ [q])
    simp only [altS, List.append_assoc, List.cons_append] at h1 h2 ⊢
    rw [h1, h2]
    grind
theorem altS_alt {F : List RV → Rat} (h : AltF F) (c : Nat) (P Q : List RV) (u : RV) : ∀ pre : List RV, altS F c pre (P ++ u :: u :: Q) = 0 := by
  induction P with
  | nil =>
    intro pre
    have h1 := altS_altP h c u Q pre []
    simp only [altS, List.nil_append, List.append_assoc, List.cons_append] at h1 ⊢
    rw [h1]
    grind
  | cons p P ih =>
    intro pre
    have h1 := h (pre ++ P) Q u
    have h2 := ih (pre ++ [p])
    simp only [altS, List.append_assoc, List.cons_append] at h1 h2 ⊢
    rw [h1, h2]
    grind
theorem detL_alt (cs : List Nat) : AltF (detL cs) := by
  induction cs with
  | nil => intro P Q u; cases P <;> rfl
  | cons c cs ih => intro P Q u; exact altS_alt ih c P Q u []
theorem detL_swap (cs : List Nat) (P Q : List RV) (u v : RV) : detL cs (P ++ u :: v :: Q) = - detL cs (P ++ v :: u :: Q) := by
  have h0 := detL_alt cs P Q (fun x => 1 * u x + 1 * v x)
  have h1 := detL_lin cs P ((fun x => 1 * u x + 1 * v x) :: Q) u v 1 1
  have h2 := detL_lin cs (P ++ [u]) Q u v 1 1
  have h3 := detL_lin cs (P ++ [v]) Q u v 1 1
  have h4 := detL_alt cs P Q u
  have h5 := detL_alt cs P Q v
  simp only [List.append_assoc, List.cons_append, List.nil_append] at h2 h3
  rw [h0, h2, h3, h4, h5] at h1
  grind
theorem detL_far (cs : List Nat) (u : RV) (Q R : List RV) : ∀ P : List RV, detL cs (P ++ u :: (R ++ u :: Q)) = 0 := by
  induction R with
  | nil => intro P; exact detL_alt cs P Q u
  | cons r R ih =>
    intro P
    have h1 := detL_swap cs P (R ++ u :: Q) u r
    have h2 := ih (P ++ [r])
    simp only [List.append_assoc, List.cons_append, List.nil_append] at h1 h2 ⊢
    rw [h1, h2]
    grind
theorem altS_block {F G : List RV → Rat} {k : Rat} {w : RV} {c n : Nat} (hF : ∀ r : List RV, r.length = n → F (r ++ [w]) = G r * k) (hw : w c = 0) (Ms : List RV) : ∀ pre : List RV, pre.length + Ms.length = n + 1 → altS F c pre (Ms ++ [w]) = altS G c pre Ms * k := by
  induction Ms with
  | nil => intro pre _; simp only [altS, List.nil_append, hw]; grind
  | cons m Ms ih =>
    intro pre h
    have h1 := hF (pre ++ Ms) (by simp at h ⊢; omega)
    have h2 := ih (pre ++ [m]) (by simp at h ⊢; omega)
    simp only [altS, List.append_assoc, List.cons_append] at h1 h2 ⊢
    rw [h1, h2]
    grind
theorem detL_block {w : RV} (x : Nat) (cs : List Nat) (hw : ∀ c ∈ cs, w c = 0) : ∀ Ms : List RV, Ms.length = cs.length → detL (cs ++ [x]) (Ms ++ [w]) = detL cs Ms * w x := by
  induction cs with
  | nil =>
    intro Ms h
    cases Ms with
    | nil => simp only [List.nil_append, detL, altS]; grind
    | cons m Ms => simp at h
  | cons c cs ih =>
    intro Ms h
    exact altS_block (n := cs.length) (fun r hr => ih (fun a ha => hw a (by simp [ha])) r hr) (hw c (by simp)) Ms [] (by simpa using h)
inductive Spn (Ms : List RV) : RV → Prop
  | row (v : RV) : v ∈ Ms → Spn Ms v
  | lin (a b : Rat) (u v : RV) : Spn Ms u → Spn Ms v → Spn Ms (fun x => a * u x + b * v x)
theorem Spn.mono {Ms Ns : List RV} (h : ∀ v ∈ Ms, v ∈ Ns) {v : RV} (hv : Spn Ms v) : Spn Ns v := by
  induction hv with
  | row v hv => exact .row v (h v hv)
  | lin a b u v _ _ h1 h2 => exact .lin a b u v h1 h2
theorem detL_row (cs : List Nat) {Ms : List RV} {v : RV} (h : v ∈ Ms) : detL cs (Ms ++ [v]) = 0 := by
  obtain ⟨P, R, rfl⟩ := List.append_of_mem h
  have := detL_far cs v [] R P
  simpa using this
theorem detL_spn (cs : List Nat) {Ms : List RV} {v : RV} (h : Spn Ms v) : detL cs (Ms ++ [v]) = 0 := by
  induction h with
  | row v hv => exact detL_row cs hv
  | lin a b u v _ _ h1 h2 =>
    have h := detL_lin cs Ms [] u v a b
    rw [h, h1, h2]
    grind
def sumN (n : Nat) (f : Nat → Rat) : Rat := match n with
  | 0 => 0
  | n + 1 => sumN n f + f n
theorem zcg {n : Nat} {f g : Nat → Rat} (h : ∀ i, i < n → f i = g i) : sumN n f = sumN n g := by
  induction n with
  | zero => rfl
  | succ n ih => rw [sumN, sumN, ih fun i hi => h i (by omega), h n (by omega)]
theorem sumN_zero {n : Nat} {f : Nat → Rat} (h : ∀ i, i < n → f i = 0) : sumN n f = 0 := by
  induction n with
  | zero => rfl
  | succ n ih => rw [sumN, ih fun i hi => h i (by omega), h n (by omega)]; grind
theorem sumN_one {n i : Nat} {f : Nat → Rat} (hi : i < n) (h : ∀ j, j < n → j ≠ i → f j = 0) : sumN n f = f i := by
  induction n with
  | zero => omega
  | succ n ih =>
    rw [sumN]
    rcases Nat.lt_or_ge i n with h1 | h1
    · rw [ih h1 fun j hj hn => h j (by omega) hn, h n (by omega) (by omega)]; grind
    · obtain rfl : i = n := by omega
      rw [sumN_zero fun j hj => h j (by omega) (by omega)]; grind
theorem zdj (n : Nat) (a : Rat) (f : Nat → Rat) : sumN n (fun i => a * f i) = a * sumN n f := by
  induction n with
  | zero => simp only [sumN]; grind
  | succ n ih => rw [sumN, sumN, ih]; grind
theorem sumN_add (n : Nat) (f g : Nat → Rat) : sumN n (fun i => f i + g i) = sumN n f + sumN n g := by
  induction n with
  | zero => simp only [sumN]; grind
  | succ n ih => rw [sumN, sumN, sumN, ih]; grind
theorem detL_rest {Ms : List RV} {cs : List Nat} {A : Nat → RV} {d : Rat} (hl : Ms.length = cs.length) (hA : ∀ l, l < cs.length → Spn Ms (A l)) (hd : ∀ l k, l < cs.length → k < cs.length → A l (cs.getD k 0) = if l = k then d else 0) (hdet : d = detL cs Ms) (hd0 : d ≠ 0) (w : RV) (x : Nat) :
    detL (cs ++ [x]) (Ms ++ [w]) = d * w x - sumN cs.length fun l => w (cs.getD l 0) * A l x := by
  have h1 : ∀ n, n ≤ cs.length → detL (cs ++ [x]) (Ms ++ [fun y => w y - sumN n fun l => w (cs.getD l 0) / d * A l y]) = detL (cs ++ [x]) (Ms ++ [w]) := by
    intro n hn
    induction n with
    | zero =>
      have e : (fun y => w y - sumN 0 fun l => w (cs.getD l 0) / d * A l y) = w := by funext y; simp only [sumN]; grind
      rw [e]
    | succ n ih =>
      have e : (fun y => w y - sumN (n + 1) fun l => w (cs.getD l 0) / d * A l y) = fun y => 1 * (fun y => w y - sumN n fun l => w (cs.getD l 0) / d * A l y) y + (-(w (cs.getD n 0) / d)) * A n y := by funext y; simp only [sumN]; grind
      rw [e, detL_lin (cs ++ [x]) Ms [] _ (A n) 1, detL_spn _ (hA n (by omega)), ih (by omega)]
      grind
  have h2 := detL_block (w := fun y => w y - sumN cs.length fun l => w (cs.getD l 0) / d * A l y) x cs (by
    intro c hc
    obtain ⟨k, hk, rfl⟩ := List.getElem_of_mem hc
    have ek : cs.getD k 0 = cs[k] := by rw [List.getD_eq_getElem?_getD, List.getElem?_eq_getElem hk]; rfl
    show w cs[k] - sumN cs.length (fun l => w (cs.getD l 0) / d * A l cs[k]) = 0
    rw [sumN_one hk fun j hj hne => by rw [← ek, hd j k hj hk, if_neg hne]; grind, ← ek, hd k k hk hk, if_pos rfl, Rat.div_mul_cancel hd0]
    grind) Ms hl
  rw [← h1 cs.length (Nat.le_refl _), h2, ← hdet]
  have e : (sumN cs.length fun l => w (cs.getD l 0) * A l x) = d * sumN cs.length fun l => w (cs.getD l 0) / d * A l x := by
    rw [← zdj]
    refine zcg fun l _ => ?_
    have := Rat.div_mul_cancel (a := w (cs.getD l 0)) hd0
    grind
  show d * (w x - sumN cs.length fun l => w (cs.getD l 0) / d * A l x) = _
  rw [e]
  grind
def IntV (v : RV) : Prop := ∀ x, ∃ z : Int, v x = (z : Rat)
theorem altS_int {F : List RV → Rat} (hF : ∀ r : List RV, (∀ v ∈ r, IntV v) → ∃ z : Int, F r = (z : Rat)) (c : Nat) (post : List RV) : ∀ pre : List RV, (∀ v ∈ pre, IntV v) → (∀ v ∈ post, IntV v) → ∃ z : Int, altS F c pre post = (z : Rat) := by
  induction post with
  | nil => intro pre _ _; exact ⟨0, rfl⟩
  | cons v post ih =>
    intro pre h1 h2
    obtain ⟨a, ha⟩ := h2 v (by simp) c
    obtain ⟨b, hb⟩ := hF (pre ++ post) (fun u hu => by rcases List.mem_append.1 hu with h | h; exact h1 u h; exact h2 u (by simp [h]))
    obtain ⟨e, he⟩ := ih (pre ++ [v]) (fun u hu => by rcases List.mem_append.1 hu with h | h; exact h1 u h; exact h2 u (by simp at h; simp [h])) (fun u hu => h2 u (by simp [hu]))
    refine ⟨a * b - e, ?_⟩
    rw [altS, ha, hb, he, Rat.intCast_sub, Rat.intCast_mul]
theorem detL_int (cs : List Nat) : ∀ rows : List RV, (∀ v ∈ rows, IntV v) → ∃ z : Int, detL cs rows = (z : Rat) := by
  induction cs with
  | nil =>
    intro rows _
    cases rows with
    | nil => exact ⟨1, rfl⟩
    | cons a l => exact ⟨0, rfl⟩
  | cons c cs ih => intro rows h; exact altS_int ih c rows [] (fun v hv => by cases hv) h
def rv (m : Nat) (f : Nat → Int) : RV := fun x => if x < m then (f x : Rat) else 0
theorem zdq {m x : Nat} {f : Nat → Int} (h : x < m) : rv m f x = (f x : Rat) := if_pos h
theorem rv_out {m x : Nat} {f : Nat → Int} (h : ¬ x < m) : rv m f x = 0 := if_neg h
theorem rv_int (m : Nat) (f : Nat → Int) : IntV (rv m f) := fun x => by
  by_cases h : x < m
  · exact ⟨f x, zdq h⟩
  · exact ⟨0, rv_out h⟩
def zdt (m : Nat) (Ms : Nat → Nat → Int) (k : Nat) : List RV := (List.range k).map fun l => rv m (Ms l)
theorem rowsL_len (m : Nat) (Ms : Nat → Nat → Int) (k : Nat) : (zdt m Ms k).length = k := by simp [zdt]
theorem rowsL_succ (m : Nat) (Ms : Nat → Nat → Int) (k : Nat) : zdt m Ms (k + 1) = zdt m Ms k ++ [rv m (Ms k)] := by simp [zdt, List.range_succ]
theorem rowsL_mem {m : Nat} {Ms : Nat → Nat → Int} {k l : Nat} (h : l < k) : rv m (Ms l) ∈ zdt m Ms k := List.mem_map.2 ⟨l, List.mem_range.2 h, rfl⟩
theorem rowsL_ext {m k : Nat} {Ms Ns : Nat → Nat → Int} (h : ∀ l, l < k → Ms l = Ns l) : zdt m Ms k = zdt m Ns k := List.map_congr_left fun l hl => by rw [h l (List.mem_range.1 hl)]
theorem rowsL_int {m k : Nat} {Ms : Nat → Nat → Int} : ∀ v ∈ zdt m Ms k, IntV v := fun v hv => by
  obtain ⟨l, _, rfl⟩ := List.mem_map.1 hv
  exact rv_int m _
def PM (m : Nat) (f g : Nat → Int) : Prop := ∃ t : Int, (t = 1 ∨ t = -1) ∧ ∀ x, x < m → f x = t * g x
theorem PM.refl (m : Nat) (f : Nat → Int) : PM m f f := ⟨1, .inl rfl, fun x _ => by omega⟩
theorem PM.trans {m : Nat} {f g h : Nat → Int} (a : PM m f g) (b : PM m g h) : PM m f h := by
  obtain ⟨s, hs, h1⟩ := a
  obtain ⟨t, ht, h2⟩ := b
  refine ⟨s * t, by rcases hs with rfl | rfl <;> rcases ht with rfl | rfl <;> simp, fun x hx => by rw [h1 x hx, h2 x hx]; grind⟩
structure Elim (n m : Nat) (A0 : Nat → Nat → Int) (k : Nat) (s : RS) (Ms : Nat → Nat → Int) : Prop where
  orig : ∀ i, i < n → ∃ j, j < n ∧ PM m (A0 i) (Ms j)
  len : s.piv.length ≤ n
  lt : ∀ l, l < s.piv.length → s.piv.getD l 0 < k
  asc : ∀ i j, i < j → j < s.piv.length → s.piv.getD i 0 < s.piv.getD j 0
  d0 : 0 < s.d
  det : ((s.d : Int) : Rat) = detL s.piv (zdt m Ms s.piv.length)
  spn : ∀ l, l < s.piv.length → Spn (zdt m Ms s.piv.length) (rv m (s.A l))
  dia : ∀ l j, l < s.piv.length → j < s.piv.length → s.A l (s.piv.getD j 0) = if l = j then (s.d : Int) else 0
  rest : ∀ i, s.piv.length ≤ i → i < n → ∀ x, x < m → (s.A i x : Rat) = ((s.d : Int) : Rat) * (Ms i x : Rat) - sumN s.piv.length fun l => (Ms i (s.piv.getD l 0) : Rat) * (s.A l x : Rat)
  zero : ∀ i, s.piv.length ≤ i → i < n → ∀ x, x < k → s.A i x = 0
  left : ∀ l, l < s.piv.length → ∀ x, x < s.piv.getD l 0 → s.A l x = 0
theorem Elim.start (n m : Nat) (A0 : Nat → Nat → Int) : Elim n m A0 0 ⟨A0, 1, []⟩ A0 where
  orig i hi := ⟨i, hi, PM.refl m _⟩
  len := Nat.zero_le _
  lt l hl := absurd hl (Nat.not_lt_zero _)
  asc i j _ hj := absurd hj (Nat.not_lt_zero _)
  d0 := Nat.one_pos
  det := rfl
  spn l hl := absurd hl (Nat.not_lt_zero _)
  dia l j hl _ := absurd hl (Nat.not_lt_zero _)
  rest i _ _ x _ := by show (A0 i x : Rat) = ((1 : Int) : Rat) * (A0 i x : Rat) - 0; grind
  zero i _ _ x hx := absurd hx (Nat.not_lt_zero _)
  left l hl := absurd hl (Nat.not_lt_zero _)
theorem Elim.rows {n m k : Nat} {A0 : Nat → Nat → Int} {s : RS} {Ms A' Ns : Nat → Nat → Int} (h : Elim n m A0 k s Ms) (hk : k ≤ m) (hA : ∀ l, l < s.piv.length → A' l = s.A l) (hM : ∀ l, l < s.piv.length → Ns l = Ms l)
    (hr : ∀ i, s.piv.length ≤ i → i < n → ∃ j, s.piv.length ≤ j ∧ j < n ∧ ∃ t : Int, (t = 1 ∨ t = -1) ∧ (∀ x, x < m → A' i x = t * s.A j x) ∧ (∀ x, x < m → Ns i x = t * Ms j x))
    (ho : ∀ j, j < n → ∃ i, i < n ∧ PM m (Ms j) (Ns i)) : Elim n m A0 k ⟨A', s.d, s.piv⟩ Ns where
  orig i hi := by
    obtain ⟨j, hj, p⟩ := h.orig i hi
    obtain ⟨i', hi', q⟩ := ho j hj
    exact ⟨i', hi', p.trans q⟩
  len := h.len
  lt := h.lt
  asc := h.asc
  d0 := h.d0
  det := by rw [rowsL_ext hM]; exact h.det
  spn l hl := by show Spn (zdt m Ns s.piv.length) (rv m (A' l)); rw [rowsL_ext hM, hA l hl]; exact h.spn l hl
  dia l j hl hj := by show A' l _ = _; rw [hA l hl]; exact h.dia l j hl hj
  rest i h1 h2 x hx := by
    obtain ⟨j, hj1, hj2, t, ht, e1, e2⟩ := hr i h1 h2
    have e := h.rest j hj1 hj2 x hx
    show (A' i x : Rat) = ((s.d : Int) : Rat) * (Ns i x : Rat) - sumN s.piv.length fun l => (Ns i (s.piv.getD l 0) : Rat) * (A' l x : Rat)
    have e3 : (sumN s.piv.length fun l => (Ns i (s.piv.getD l 0) : Rat) * (A' l x : Rat)) = (t : Rat) * sumN s.piv.length fun l => (Ms j (s.piv.getD l 0) : Rat) * (s.A l x : Rat) := by
      rw [← zdj]
      refine zcg fun l hl => ?_
      rw [hA l hl, e2 _ (Nat.lt_of_lt_of_le (h.lt l hl) hk), Rat.intCast_mul]
      grind
    rw [e3, e1 x hx, e2 x hx, Rat.intCast_mul, Rat.intCast_mul, e]
    grind
  zero i h1 h2 x hx := by
    obtain ⟨j, hj1, hj2, t, ht, e1, e2⟩ := hr i h1 h2
    show A' i x = 0
    rw [e1 x (by omega), h.zero j hj1 hj2 x hx, Int.mul_zero]
  left l hl x hx := by show A' l x = 0; rw [hA l hl]; exact h.left l hl x hx
theorem Elim.swap {n m k r : Nat} {A0 : Nat → Nat → Int} {s : RS} {Ms : Nat → Nat → Int} (h : Elim n m A0 k s Ms) (hk : k ≤ m) (h1 : s.piv.length ≤ r) (h2 : r < n) : Elim n m A0 k ⟨swF s.A s.piv.length r, s.d, s.piv⟩ (swF Ms s.piv.length r) := by
  refine h.rows hk (fun l hl => swF_o _ (by omega) (by omega)) (fun l hl => swF_o _ (by omega) (by omega)) (fun i hi1 hi2 => ?_) (fun j hj => ?_)
  · obtain ⟨j, hj1, hj2, e1, e2⟩ : ∃ j, s.piv.length ≤ j ∧ j < n ∧ swF s.A s.piv.length r i = s.A j ∧ swF Ms s.piv.length r i = Ms j := by
      by_cases g1 : i = s.piv.length
      · exact ⟨r, h1, h2, by rw [g1]; exact swF_i _ _ _, by rw [g1]; exact swF_i _ _ _⟩
      · by_cases g2 : i = r
        · exact ⟨s.piv.length, by omega, by omega, by rw [g2]; exact swF_k _ _ _, by rw [g2]; exact swF_k _ _ _⟩
        · exact ⟨i, hi1, hi2, swF_o _ g1 g2, swF_o _ g1 g2⟩
    exact ⟨j, hj1, hj2, 1, .inl rfl, fun x _ => by rw [e1]; omega, fun x _ => by rw [e2]; omega⟩
  · by_cases g1 : j = s.piv.length
    · exact ⟨r, h2, by rw [swF_k, g1]; exact PM.refl m _⟩
    · by_cases g2 : j = r
      · exact ⟨s.piv.length, by omega, by rw [swF_i, g2]; exact PM.refl m _⟩
      · exact ⟨j, hj, by rw [swF_o _ g1 g2]; exact PM.refl m _⟩
theorem Elim.flip {n m k c : Nat} {A0 : Nat → Nat → Int} {s : RS} {Ms : Nat → Nat → Int} (h : Elim n m A0 k s Ms) (hk : k ≤ m) (h1 : s.piv.length < n) : ∃ Ns, Elim n m A0 k ⟨flipM s.A m s.piv.length c, s.d, s.piv⟩ Ns := by
  unfold flipM
  split
  · exact ⟨Ms, h⟩
  · refine ⟨zer Ms s.piv.length m, h.rows hk (fun l hl => ?_) (fun l hl => ?_) (fun i hi1 hi2 => ?_) (fun j hj => ?_)⟩
    · funext x; unfold zer; rw [if_neg (by omega)]
    · funext x; unfold zer; rw [if_neg (by omega)]
    · by_cases g : i = s.piv.length
      · refine ⟨i, hi1, hi2, -1, .inr rfl, fun x hx => ?_, fun x hx => ?_⟩
        · unfold zer; rw [if_pos ⟨g, hx⟩]; omega
        · unfold zer; rw [if_pos ⟨g, hx⟩]; omega
      · refine ⟨i, hi1, hi2, 1, .inl rfl, fun x hx => ?_, fun x hx => ?_⟩
        · unfold zer; rw [if_neg (by omega)]; omega
        · unfold zer; rw [if_neg (by omega)]; omega
    · by_cases g : j = s.piv.length
      · refine ⟨j, hj, -1, .inr rfl, fun x hx => ?_⟩
        unfold zer; rw [if_pos ⟨g, hx⟩]; omega
      · refine ⟨j, hj, 1, .inl rfl, fun x hx => ?_⟩
        unfold zer; rw [if_neg (by omega)]; omega
theorem spn_rest {Ls : List RV} {w : RV} {A : Nat → RV} {cf : Nat → Rat} (hw : Spn Ls w) (a : Rat) (n : Nat) (hA : ∀ l, l < n → Spn Ls (A l)) : Spn Ls (fun x => a * w x - sumN n fun l => cf l * A l x) := by
  induction n with
  | zero =>
    have := Spn.lin a 0 w w hw hw
    have e : (fun x => a * w x - sumN 0 fun l => cf l * A l x) = fun x => a * w x + 0 * w x := by funext x; simp only [sumN]; grind
    rw [e]; exact this
  | succ n ih =>
    have := Spn.lin 1 (-(cf n)) _ _ (ih fun l hl => hA l (by omega)) (hA n (by omega))
    have e : (fun x => a * w x - sumN (n + 1) fun l => cf l * A l x) = fun x => 1 * (fun x => a * w x - sumN n fun l => cf l * A l x) x + -(cf n) * A n x := by funext x; simp only [sumN]; grind
    rw [e]; exact this
theorem tdiv_of {a : Int} {d : Nat} {z : Int} (hd : 0 < d) (h : (a : Rat) / ((d : Int) : Rat) = (z : Rat)) : a.tdiv (d : Int) = z := by
  have hd0 : ((d : Int) : Rat) ≠ 0 := by
    intro e
    have : (d : Int) = 0 := Rat.intCast_inj.1 (by rw [e]; rfl)
    omega
  have h1 : (a : Rat) = (z : Rat) * ((d : Int) : Rat) := by rw [← h, Rat.div_mul_cancel hd0]
  have h2 : a = z * (d : Int) := by rw [← Rat.intCast_mul] at h1; exact Rat.intCast_inj.1 h1
  rw [h2]
  exact Int.mul_tdiv_cancel _ (by omega)
def nextB (m : Nat) (A : Nat → Nat → Int) (np k d : Nat) (l : Nat) : RV := if l = np then rv m (A np) else fun x => ((A np k : Int) : Rat) / ((d : Int) : Rat) * rv m (A l) x + (-(((A l k : Int) : Rat) / ((d : Int) : Rat))) * rv m (A np) x
theorem zec {l : List Nat} {k i : Nat} (h : i < l.length) : (l ++ [k]).getD i 0 = l.getD i 0 := by
  rw [List.getD_eq_getElem?_getD, List.getElem?_append_left h, ← List.getD_eq_getElem?_getD]
theorem zee (l : List Nat) (k : Nat) : (l ++ [k]).getD l.length 0 = k := by
  rw [List.getD_eq_getElem?_getD, List.getElem?_append_right (Nat.le_refl _), Nat.sub_self]; rfl
theorem Elim.clear {n m k : Nat} {A0 : Nat → Nat → Int} {s : RS} {Ms : Nat → Nat → Int} (h : Elim n m A0 k s Ms) (hk : k < m) (hnp : s.piv.length < n) (hp : 0 < s.A s.piv.length k) :
    Elim n m A0 (k + 1) ⟨zcp s.A m s.piv.length k s.d n, (s.A s.piv.length k).natAbs, s.piv ++ [k]⟩ Ms ∧ ∀ a b, a < n → b < m → a ≠ s.piv.length → ((zcp s.A m s.piv.length k s.d n a b : Int) : Rat) = ((s.A a b : Rat) * (s.A s.piv.length k : Rat) - (s.A a k : Rat) * (s.A s.piv.length b : Rat)) / ((s.d : Int) : Rat) := by
  obtain ⟨np, hnp'⟩ : ∃ np, np = s.piv.length := ⟨_, rfl⟩
  obtain ⟨p, hp'⟩ : ∃ p, p = s.A np k := ⟨_, rfl⟩
  obtain ⟨D, hD⟩ : ∃ D, D = ((s.d : Int) : Rat) := ⟨_, rfl⟩
  rw [← hnp'] at hnp hp ⊢
  rw [← hp'] at hp ⊢
  have hd0 : ((s.d : Int) : Rat) ≠ 0 := by
    intro e
    have h1 : (s.d : Int) = 0 := Rat.intCast_inj.1 (by rw [e]; rfl)
    have := h.d0
    omega
  have hp0 : ((p : Int) : Rat) ≠ 0 := by
    intro e
    have h1 : p = 0 := Rat.intCast_inj.1 (by rw [e]; rfl)
    omega
  have hpn : ((p.natAbs : Nat) : Int) = p := by omega
  have Hlt := h.lt; have Hspn := h.spn; have Hdia := h.dia; have Hrest := h.rest; have Hzero := h.zero; have Hleft := h.left; have Hdet := h.det
  rw [← hnp'] at Hlt Hspn Hdia Hrest Hzero Hleft Hdet
  have Hpiv : ∀ j, j < np → s.piv.getD j 0 < m := fun j hj => Nat.lt_trans (Hlt j hj) hk
  have hL : (zdt m Ms np).length = s.piv.length := by rw [rowsL_len, hnp']
  have hL1 : (zdt m Ms (np + 1)).length = (s.piv ++ [k]).length := by rw [rowsL_len, List.length_append, ← hnp']; rfl
  have hlen1 : (s.piv ++ [k]).length = np + 1 := by rw [List.length_append, ← hnp']; rfl
  have hdown : ∀ (w : RV) (x : Nat), detL (s.piv ++ [x]) (zdt m Ms np ++ [w]) = ((s.d : Int) : Rat) * w x - sumN np fun l => w (s.piv.getD l 0) * rv m (s.A l) x := by
    intro w x
    have := detL_rest (Ms := zdt m Ms np) (cs := s.piv) (A := fun l => rv m (s.A l)) (d := ((s.d : Int) : Rat)) hL (fun l hl => Hspn l (by omega)) (fun l j hl hj => ?_) Hdet hd0 w x
    · rw [← hnp'] at this; exact this
    · rw [zdq (Hpiv j (by omega)), Hdia l j (by omega) (by omega)]
      split <;> rfl
  have hrow : ∀ i, np ≤ i → i < n → ∀ x, x < m → detL (s.piv ++ [x]) (zdt m Ms np ++ [rv m (Ms i)]) = (s.A i x : Rat) := by
    intro i h1 h2 x hx
    rw [hdown, Hrest i h1 h2 x hx, zdq hx]
    congr 1
    exact zcg fun l hl => by rw [zdq (Hpiv l hl), zdq hx]
  have hdet1 : ((p : Int) : Rat) = detL (s.piv ++ [k]) (zdt m Ms (np + 1)) := by rw [rowsL_succ, hrow np (Nat.le_refl _) hnp k hk, hp']
  have hmono : ∀ v ∈ zdt m Ms np, v ∈ zdt m Ms (np + 1) := fun v hv => by rw [rowsL_succ]; exact List.mem_append_left _ hv
  have hnpz : ∀ j, j < np → s.A np (s.piv.getD j 0) = 0 := fun j hj => Hzero np (Nat.le_refl _) hnp _ (Hlt j hj)
  have hspnp : Spn (zdt m Ms (np + 1)) (rv m (s.A np)) := by
    have h1 := spn_rest (Ls := zdt m Ms (np + 1)) (w := rv m (Ms np)) (A := fun l => rv m (s.A l)) (cf := fun l => (Ms np (s.piv.getD l 0) : Rat)) (.row _ (rowsL_mem (Nat.lt_succ_self _))) ((s.d : Int) : Rat) np (fun l hl => (Hspn l hl).mono hmono)
    have e : rv m (s.A np) = fun x => ((s.d : Int) : Rat) * rv m (Ms np) x - sumN np fun l => (Ms np (s.piv.getD l 0) : Rat) * rv m (s.A l) x := by
      funext x
      by_cases hx : x < m
      · rw [zdq hx, zdq hx, Hrest np (Nat.le_refl _) hnp x hx]
        congr 1
        exact zcg fun l hl => by rw [zdq hx]
      · rw [rv_out hx, rv_out hx, sumN_zero fun l hl => by rw [rv_out hx]; grind]
        grind
    rw [e]; exact h1
  have hspn1 : ∀ l, l < np + 1 → Spn (zdt m Ms (np + 1)) (nextB m s.A np k s.d l) := by
    intro l hl
    unfold nextB
    split
    · exact hspnp
    · exact .lin _ _ _ _ ((Hspn l (by omega)).mono hmono) hspnp
  have hBnp : nextB m s.A np k s.d np = rv m (s.A np) := if_pos rfl
  have hBl : ∀ l, l ≠ np → ∀ x, nextB m s.A np k s.d l x = ((p : Int) : Rat) / ((s.d : Int) : Rat) * rv m (s.A l) x + (-(((s.A l k : Int) : Rat) / ((s.d : Int) : Rat))) * rv m (s.A np) x := fun l hl x => by
    unfold nextB; rw [if_neg hl, ← hp']
  have hdia1 : ∀ l j, l < np + 1 → j < np + 1 → nextB m s.A np k s.d l ((s.piv ++ [k]).getD j 0) = if l = j then ((p : Int) : Rat) else 0 := by
    intro l j hl hj
    rcases Nat.lt_or_ge j np with hjn | hjn
    · rw [zec (by omega)]
      by_cases hln : l = np
      · subst hln
        rw [hBnp, zdq (Hpiv j hjn), hnpz j hjn, if_neg (by omega)]; rfl
      · rw [hBl l hln, zdq (Hpiv j hjn), zdq (Hpiv j hjn), hnpz j hjn, Hdia l j (by omega) hjn]
        split
        · have := Rat.div_mul_cancel (a := ((p : Int) : Rat)) hd0
          rw [this]; grind
        · grind
    · obtain rfl : j = np := by omega
      have e : (s.piv ++ [k]).getD j 0 = k := by rw [hnp']; exact zee _ _
      rw [e]
      by_cases hln : l = j
      · subst hln
        rw [hBnp, zdq hk, if_pos rfl, hp']
      · rw [hBl l hln, zdq hk, zdq hk, if_neg hln, ← hp']
        grind
  have hdown1 : ∀ (w : RV) (x : Nat), detL ((s.piv ++ [k]) ++ [x]) (zdt m Ms (np + 1) ++ [w]) = ((p : Int) : Rat) * w x - sumN (np + 1) fun l => w ((s.piv ++ [k]).getD l 0) * nextB m s.A np k s.d l x := by
    intro w x
    have := detL_rest (Ms := zdt m Ms (np + 1)) (cs := s.piv ++ [k]) (A := nextB m s.A np k s.d) (d := ((p : Int) : Rat)) hL1 (fun l hl => hspn1 l (by omega)) (fun l j hl hj => hdia1 l j (by omega) (by omega)) hdet1 hp0 w x
    rw [hlen1] at this; exact this
  have hint : ∀ (w : RV) (x : Nat), IntV w → ∃ z : Int, ((p : Int) : Rat) * w x - (sumN (np + 1) fun l => w ((s.piv ++ [k]).getD l 0) * nextB m s.A np k s.d l x) = (z : Rat) := by
    intro w x hw
    obtain ⟨z, hz⟩ := detL_int ((s.piv ++ [k]) ++ [x]) (zdt m Ms (np + 1) ++ [w]) (fun v hv => by
      rcases List.mem_append.1 hv with h1 | h1
      · exact rowsL_int v h1
      · rw [List.mem_singleton.1 h1]; exact hw)
    exact ⟨z, by rw [← hz]; exact (hdown1 w x).symm⟩
  have hq : ∀ a x, x < m → nextB m s.A np k s.d a x = ((s.A a x : Rat) * (p : Rat) - (s.A a k : Rat) * (s.A np x : Rat)) / ((s.d : Int) : Rat) ∨ a = np := by
    intro a x hx
    by_cases ha : a = np
    · exact .inr ha
    · refine .inl ?_
      rw [hBl a ha, zdq hx, zdq hx]
      grind
  have hwholeL : ∀ l, l < np → ∀ x, x < m → ∃ z : Int, ((s.A l x : Rat) * (p : Rat) - (s.A l k : Rat) * (s.A np x : Rat)) / ((s.d : Int) : Rat) = (z : Rat) := by
    intro l hl x hx
    obtain ⟨z, hz⟩ := hint (fun y => if y = s.piv.getD l 0 then 1 else 0) x (fun y => by by_cases hy : y = s.piv.getD l 0; exact ⟨1, if_pos hy⟩; exact ⟨0, if_neg hy⟩)
    rw [sumN_one (i := l) (by omega) (fun j hj hne => ?_)] at hz
    · simp only [zec (l := s.piv) (k := k) (i := l) (by omega)] at hz
      rw [if_pos trivial] at hz
      rcases hq l x hx with e | e
      · refine ⟨p * (if x = s.piv.getD l 0 then 1 else 0) - z, ?_⟩
        rw [← e, Rat.intCast_sub, Rat.intCast_mul, ← hz]
        split <;> grind
      · omega
    · rcases Nat.lt_or_ge j np with hjn | hjn
      · rw [zec (by omega), if_neg (fun e => ?_)]
        · grind
        · rcases Nat.lt_or_gt_of_ne hne with h1 | h1
          · have := h.asc j l h1 (by omega); omega
          · have := h.asc l j h1 (by omega); omega
      · obtain rfl : j = np := by omega
        have e : (s.piv ++ [k]).getD j 0 = k := by rw [hnp']; exact zee _ _
        rw [e, if_neg (by have := Hlt l hl; omega)]
        grind
  have hrest1 : ∀ i, np < i → i < n → ∀ x, x < m → ((s.A i x : Rat) * (p : Rat) - (s.A i k : Rat) * (s.A np x : Rat)) / ((s.d : Int) : Rat) = ((p : Int) : Rat) * (Ms i x : Rat) - sumN (np + 1) fun l => (Ms i ((s.piv ++ [k]).getD l 0) : Rat) * nextB m s.A np k s.d l x := by
    intro i h1 h2 x hx
    have e1 := Hrest i (by omega) h2 x hx
    have e2 := Hrest i (by omega) h2 k hk
    have ek : (s.piv ++ [k]).getD np 0 = k := by rw [hnp']; exact zee _ _
    rw [sumN, ek, hBnp, zdq hx]
    have e3 : (sumN np fun l => (Ms i ((s.piv ++ [k]).getD l 0) : Rat) * nextB m s.A np k s.d l x) = (((p : Int) : Rat) / ((s.d : Int) : Rat)) * (sumN np fun l => (Ms i (s.piv.getD l 0) : Rat) * (s.A l x : Rat)) + (-((s.A np x : Rat) / ((s.d : Int) : Rat))) * sumN np fun l => (Ms i (s.piv.getD l 0) : Rat) * (s.A l k : Rat) := by
      rw [← zdj, ← zdj, ← sumN_add]
      refine zcg fun l hl => ?_
      rw [zec (by omega), hBl l (by omega), zdq hx, zdq hx]
      grind
    rw [e3]
    have hc := Rat.div_mul_cancel (a := ((p : Int) : Rat)) hd0
    have hc2 := Rat.div_mul_cancel (a := (s.A np x : Rat)) hd0
    have hi : ((s.d : Int) : Rat) * ((s.d : Int) : Rat)⁻¹ = 1 := Rat.mul_inv_cancel _ hd0
    simp only [Rat.div_def] at hc hc2 ⊢
    rw [e1, e2]
    grind
  have hwholeI : ∀ i, np < i → i < n → ∀ x, x < m → ∃ z : Int, ((s.A i x : Rat) * (p : Rat) - (s.A i k : Rat) * (s.A np x : Rat)) / ((s.d : Int) : Rat) = (z : Rat) := by
    intro i h1 h2 x hx
    obtain ⟨z, hz⟩ := hint (rv m (Ms i)) x (rv_int m _)
    refine ⟨z, ?_⟩
    rw [hrest1 i h1 h2 x hx, ← hz, zdq hx]
    congr 1
    refine zcg fun l hl => ?_
    rcases Nat.lt_or_ge l np with hln | hln
    · rw [zec (by omega), zdq (Hpiv l hln)]
    · obtain rfl : l = np := by omega
      have e : (s.piv ++ [k]).getD l 0 = k := by rw [hnp']; exact zee _ _
      rw [e, zdq hk]
  have hwhole : ∀ a, a < n → a ≠ np → ∀ x, x < m → ((zcp s.A m np k s.d n a x : Int) : Rat) = ((s.A a x : Rat) * (p : Rat) - (s.A a k : Rat) * (s.A np x : Rat)) / ((s.d : Int) : Rat) := by
    intro a ha hne x hx
    obtain ⟨z, hz⟩ : ∃ z : Int, ((s.A a x : Rat) * (p : Rat) - (s.A a k : Rat) * (s.A np x : Rat)) / ((s.d : Int) : Rat) = (z : Rat) := by
      rcases Nat.lt_or_ge a np with h1 | h1
      · exact hwholeL a h1 x hx
      · exact hwholeI a (by omega) ha x hx
    have e : zcp s.A m np k s.d n a x = z := by
      unfold zcp crossZ
      rw [if_pos ⟨ha, hne, hx⟩, ← hp']
      refine tdiv_of h.d0 ?_
      rw [Rat.intCast_sub, Rat.intCast_mul, Rat.intCast_mul, hz]
    rw [e, hz]
  have hclrB : ∀ l, l < np + 1 → rv m (zcp s.A m np k s.d n l) = nextB m s.A np k s.d l := by
    intro l hl
    funext x
    by_cases hx : x < m
    · rw [zdq hx]
      by_cases hln : l = np
      · subst hln
        rw [clrTo_np, hBnp, zdq hx]
      · rw [hwhole l (by omega) hln x hx]
        rcases hq l x hx with e | e
        · exact e.symm
        · exact absurd e hln
    · rw [rv_out hx]
      by_cases hln : l = np
      · subst hln
        rw [hBnp, rv_out hx]
      · rw [hBl l hln, rv_out hx, rv_out hx]
        grind
  refine ⟨?_, fun a b ha hb hne => hwhole a ha hne b hb⟩
  refine ⟨h.orig, by show (s.piv ++ [k]).length ≤ n; omega, fun l hl => ?_, fun i j hij hj => ?_, by show 0 < p.natAbs; omega, ?_, fun l hl => ?_, fun l j hl hj => ?_, fun i h1 h2 x hx => ?_, fun i h1 h2 x hx => ?_, fun l hl x hx => ?_⟩
  · show (s.piv ++ [k]).getD l 0 < k + 1
    replace hl : l < np + 1 := by rw [← hlen1]; exact hl
    rcases Nat.lt_or_ge l np with h1 | h1
    · rw [zec (by omega)]; have := Hlt l h1; omega
    · obtain rfl : l = np := by omega
      rw [hnp', zee]; omega
  · show (s.piv ++ [k]).getD i 0 < (s.piv ++ [k]).getD j 0
    replace hj : j < np + 1 := by rw [← hlen1]; exact hj
    rw [zec (by omega)]
    rcases Nat.lt_or_ge j np with h1 | h1
    · rw [zec (by omega)]; exact h.asc i j hij (by omega)
    · obtain rfl : j = np := by omega
      rw [hnp', zee]; exact Hlt i (by omega)
  · show ((p.natAbs : Int) : Rat) = detL (s.piv ++ [k]) (zdt m Ms (s.piv ++ [k]).length)
    rw [hlen1, hpn]; exact hdet1
  · show Spn (zdt m Ms (s.piv ++ [k]).length) (rv m (zcp s.A m np k s.d n l))
    replace hl : l < np + 1 := by rw [← hlen1]; exact hl
    rw [hlen1, hclrB l hl]
    exact hspn1 l hl
  · show zcp s.A m np k s.d n l ((s.piv ++ [k]).getD j 0) = if l = j then (p.natAbs : Int) else 0
    replace hl : l < np + 1 := by rw [← hlen1]; exact hl
    replace hj : j < np + 1 := by rw [← hlen1]; exact hj
    have hx : (s.piv ++ [k]).getD j 0 < m := by
      rcases Nat.lt_or_ge j np with h1 | h1
      · rw [zec (by omega)]; exact Hpiv j h1
      · obtain rfl : j = np := by omega
        rw [hnp', zee]; exact hk
    have e := congrFun (hclrB l hl) ((s.piv ++ [k]).getD j 0)
    rw [zdq hx, hdia1 l j hl hj] at e
    rw [hpn]
    refine Rat.intCast_inj.1 (e.trans ?_)
    split <;> rfl
  · show ((zcp s.A m np k s.d n i x : Int) : Rat) = ((p.natAbs : Int) : Rat) * (Ms i x : Rat) - sumN (s.piv ++ [k]).length fun l => (Ms i ((s.piv ++ [k]).getD l 0) : Rat) * (zcp s.A m np k s.d n l x : Rat)
    replace h1 : np + 1 ≤ i := by rw [← hlen1]; exact h1
    rw [hwhole i h2 (by omega) x hx, hrest1 i (by omega) h2 x hx, hlen1, hpn]
    congr 1
    exact zcg fun l hl => by rw [← hclrB l hl, zdq hx]
  · show zcp s.A m np k s.d n i x = 0
    replace h1 : np + 1 ≤ i := by rw [← hlen1]; exact h1
    have hxm : x < m := by omega
    refine Rat.intCast_inj.1 ?_
    rw [hwhole i h2 (by omega) x hxm]
    rcases Nat.lt_or_ge x k with hxk | hxk
    · rw [Hzero i (by omega) h2 x hxk, Hzero np (Nat.le_refl _) hnp x hxk]
      grind
    · obtain rfl : x = k := by omega
      rw [← hp']
      grind
  · show zcp s.A m np k s.d n l x = 0
    replace hl : l < np + 1 := by rw [← hlen1]; exact hl
    replace hx : x < (s.piv ++ [k]).getD l 0 := hx
    rcases Nat.lt_or_ge l np with h1 | h1
    · rw [zec (by omega)] at hx
      have h2 := Hlt l h1
      refine Rat.intCast_inj.1 ?_
      rw [hwhole l (by omega) (by omega) x (by omega), Hleft l h1 x hx, Hzero np (Nat.le_refl _) hnp x (by omega)]
      grind
    · obtain rfl : l = np := by omega
      have e : (s.piv ++ [k]).getD l 0 = k := by rw [hnp']; exact zee _ _
      rw [e] at hx
      rw [clrTo_np]
      exact Hzero l (Nat.le_refl _) hnp x hx
theorem elim_run (n m : Nat) (A0 : Nat → Nat → Int) : ∀ k, k ≤ m → ∃ Ms, Elim n m A0 k (runK n m A0 k) Ms := by
  intro k
  induction k with
  | zero => intro _; exact ⟨A0, Elim.start n m A0⟩
  | succ k ih =>
    intro hk
    obtain ⟨Ms, h⟩ := ih (by omega)
    rw [runK]
    cases e : firstR (runK n m A0 k).A (runK n m A0 k).piv.length n k with
    | none =>
      refine ⟨Ms, h.orig, h.len, fun l hl => Nat.lt_succ_of_lt (h.lt l hl), h.asc, h.d0, h.det, h.spn, h.dia, h.rest, fun i h1 h2 x hx => ?_, h.left⟩
      rcases Nat.lt_or_ge x k with h3 | h3
      · exact h.zero i h1 h2 x h3
      · obtain rfl : x = k := by omega
        unfold firstR at e
        rw [List.find?_eq_none] at e
        have := e i (List.mem_range.2 h2)
        simp at this
        exact this h1
    | some r =>
      obtain ⟨h1, h2, h3, _⟩ := firstR_of e
      have hs := h.swap (by omega) h1 h2
      obtain ⟨Ns, hf⟩ := hs.flip (c := k) (by omega) (show (runK n m A0 k).piv.length < n by omega)
      have hpos : 0 < flipM (swF (runK n m A0 k).A (runK n m A0 k).piv.length r) m (runK n m A0 k).piv.length k (runK n m A0 k).piv.length k := by
        unfold flipM
        split
        · assumption
        · rename_i hn
          unfold zer
          rw [if_pos ⟨rfl, by omega⟩]
          rw [swF_i] at hn ⊢
          omega
      exact ⟨Ns, (hf.clear (by omega) (show (runK n m A0 k).piv.length < n by omega) hpos).1⟩
theorem Elim.whole {n m : Nat} {A0 : Nat → Nat → Int} {k : Nat} {s : RS} {Ms : Nat → Nat → Int} (h : Elim n m A0 k s Ms) (hk : k ≤ m) {i x : Nat} (hi : i < n) (hx : x < m) (hz : x < k ∨ ∀ j, s.piv.length ≤ j → j < n → s.A j x = 0) : ((s.d : Int) : Rat) * (A0 i x : Rat) = sumN s.piv.length fun l => (A0 i (s.piv.getD l 0) : Rat) * (s.A l x : Rat) := by
  have hd0 : ((s.d : Int) : Rat) ≠ 0 := by
    intro e
    have h1 : (s.d : Int) = 0 := Rat.intCast_inj.1 (by rw [e]; rfl)
    have := h.d0
    omega
  have hpm : ∀ l, l < s.piv.length → s.piv.getD l 0 < m := fun l hl => Nat.lt_of_lt_of_le (h.lt l hl) hk
  obtain ⟨j, hj, t, ht, e⟩ := h.orig i hi
  have key : ((s.d : Int) : Rat) * (Ms j x : Rat) = sumN s.piv.length fun l => (Ms j (s.piv.getD l 0) : Rat) * (s.A l x : Rat) := by
    rcases Nat.lt_or_ge j s.piv.length with h1 | h1
    · have e1 := detL_rest (Ms := zdt m Ms s.piv.length) (cs := s.piv) (A := fun l => rv m (s.A l)) (d := ((s.d : Int) : Rat)) (rowsL_len m Ms _) h.spn (fun l j hl hj => by rw [zdq (hpm j hj), h.dia l j hl hj]; split <;> rfl) h.det hd0 (rv m (Ms j)) x
      rw [detL_row _ (rowsL_mem h1), zdq hx] at e1
      have e2 : (sumN s.piv.length fun l => rv m (Ms j) (s.piv.getD l 0) * rv m (s.A l) x) = sumN s.piv.length fun l => (Ms j (s.piv.getD l 0) : Rat) * (s.A l x : Rat) := zcg fun l hl => by rw [zdq (hpm l hl), zdq hx]
      rw [e2] at e1
      grind
    · have e1 := h.rest j h1 hj x hx
      have e2 : s.A j x = 0 := by
        rcases hz with hz | hz
        · exact h.zero j h1 hj x hz
        · exact hz j h1 hj
      rw [e2] at e1
      grind
  have e3 : (sumN s.piv.length fun l => (A0 i (s.piv.getD l 0) : Rat) * (s.A l x : Rat)) = (t : Rat) * sumN s.piv.length fun l => (Ms j (s.piv.getD l 0) : Rat) * (s.A l x : Rat) := by
    rw [← zdj]
    refine zcg fun l hl => ?_
    rw [e _ (hpm l hl), Rat.intCast_mul]
    grind
  rw [e3, e x hx, Rat.intCast_mul, ← key]
  grind
end Go.Proofs.YtblpaocignlpkaaDoor
namespace Go.Proofs.YtblpaocignlpkaaDoor
open Go.RowKit
set_option linter.unusedVariables false
theorem wp_makeZ {P : Program} {w : World} {ops : Array Oper} {rest : List Oper} {o : Oper} {a : Act} {Q : Exit → Act → World → Prop} {t e : TypeId} {z : Value} {bytes : Nat} (E : ElT P t e z bytes) (hz1 : z.cells = #[z]) (hg : o.guard = none) (l c : Operand) (hop : o.op = Op.makeSlice t l c) {kl kc : IntKind} {L C : Int} (n : Nat)
    (hl : a.eval l = .int kl L) (hc : a.eval c = .int kc C) (hL : L = (n : Int)) (hC : C = (n : Int)) (hb : n * (bytes + 1) ≤ 140737488355328)
    (hK : ∀ w', Row w' w.heap.size e (List.replicate n z) → Below w.heap.size w w' → Hid (w'.heap.size = w.heap.size + 1) → wpList P ops Q rest (a.put o.dst (.slice (some ⟨w.heap.size, 0, none⟩) n n)) w') :
    wpList P ops Q (o :: rest) a w := by
  obtain ⟨i, h2, h3, h4, hby⟩ := E.info
  rw [Nat.mul_add, Nat.mul_one] at hb
  refine wpList_plain hg fun K hK' => ?_
  have b2 : i.bytes * n ≤ 281474976710656 := by rw [hby, Nat.mul_comm]; omega
  have hb' : (i.bytes : Int) * (n : Int) ≤ 281474976710656 := by
    have h : ((i.bytes * n : Nat) : Int) ≤ 281474976710656 := by omega
    rwa [Int.natCast_mul] at h
  have hr := run_make (P := P) w t e i z E.und h2 h3 kl kc n n (by omega) (Int.le_refl _) hb' (by omega)
  simp only [Int.toNat_natCast] at hr
  subst hL
  subst hC
  unfold Oper.wp
  simp [execOp, hop, hl, hc, hr, Result.andThen]
  refine hK' _ _ (hK _ ?_ ((Below.refl _ _).alloc (Nat.le_refl _) _) (by simp [Hid]))
  unfold Row
  have hm : (List.replicate n z).toArray = madeCells z.cells (n * i.size) := by
    apply Array.ext'
    rw [h4, Nat.mul_one, hz1]
    show _ = (madeCells #[z] n).toList
    rw [toList_madeCells_one]
  rw [hm]
  exact heap_alloc_new w _
end Go.Proofs.YtblpaocignlpkaaDoor
namespace Go.Proofs.YtblpaocignlpkaaDoor
theorem rawV_snoc (l : List Rat) (x : Rat) : rawV (l ++ [x]) = rawV l ++ [raw x] := by simp [rawV]
end Go.Proofs.YtblpaocignlpkaaDoor
namespace Go.Proofs.YtblpaocignlpkaaDoor
open Go.RowKit
set_option linter.unusedVariables false
def updF {α : Type} (f : Nat → α) (j : Nat) (x : α) : Nat → α := fun c => if c = j then x else f c
theorem updF_j {α : Type} (f : Nat → α) (j : Nat) (x : α) : updF f j x j = x := if_pos rfl
theorem updF_o {α : Type} (f : Nat → α) {j c : Nat} (x : α) (h : c ≠ j) : updF f j x c = f c := if_neg h
theorem range_upd {α : Type} (f : Nat → α) {j n : Nat} (x : α) (h : j < n) : (List.range n).map (updF f j x) = ((List.range n).map f).set j x := by
  apply List.ext_getElem
  · simp
  · intro i h1 h2
    rw [List.getElem_map, List.getElem_range, List.getElem_set]
    simp at h1
    by_cases hi : j = i
    · rw [if_pos hi, hi, updF_j]
    · rw [if_neg hi, updF_o _ _ (Ne.symm hi)]; simp
structure TurnW (w : World) (B m base : Nat) (sl : Nat → Value) (cols : Nat → List Raw) : Prop where
  row : Row w B 29 ((List.range m).map sl)
  own : ∀ c, c < m → OwnS 3 50 IsR w base (fun b => b < base) (sl c) (cols c)
  neB : ∀ c, c < m → (sl c).ownBlock ≠ some B
  sep : ∀ c d, c < m → d < m → c ≠ d → ∀ b, (sl c).ownBlock = some b → (sl d).ownBlock ≠ some b
  hB : base ≤ B
theorem TurnW.grown {w w' : World} {B m base : Nat} {sl : Nat → Value} {cols : Nat → List Raw} (h : TurnW w B m base sl cols) (hb : w.grownBy w' none) : TurnW w' B m base sl cols :=
  ⟨h.row.grownN hb (fun b e => (by cases e)), fun c hc => (h.own c hc).grown IsR.stb hb (fun b e => (by cases e)), h.neB, h.sep, h.hB⟩
theorem TurnW.cols {w : World} {B m base : Nat} {sl : Nat → Value} {cols cols' : Nat → List Raw} (h : TurnW w B m base sl cols) (hc : ∀ c, c < m → cols c = cols' c) : TurnW w B m base sl cols' :=
  ⟨h.row, fun c hm => by rw [← hc c hm]; exact h.own c hm, h.neB, h.sep, h.hB⟩
theorem TurnW.put {w W : World} {B m base j : Nat} {sl : Nat → Value} {cols : Nat → List Raw} {v : Value} {l : List Raw} (h : TurnW w B m base sl cols) (hj : j < m) (hg : w.grownBy W (sl j).ownBlock) (hv : OwnS 3 50 IsR W base (fun b => b < base) v l)
    (ho : v.ownBlock = (sl j).ownBlock ∨ ∃ b, v.ownBlock = some b ∧ w.heap.size ≤ b) : TurnW (W.setCell ⟨B, j, none⟩ v) B m base (updF sl j v) (updF cols j l) := by
  have hBw := h.row.lt
  have hvB : v.ownBlock ≠ some B := by
    rcases ho with e | ⟨b, e, hb⟩
    · rw [e]; exact h.neB j hj
    · rw [e]; intro e'; cases e'; omega
  refine ⟨?_, fun c hc => ?_, fun c hc => ?_, fun c d hc hd hcd b hb => ?_, h.hB⟩
  · rw [range_upd _ _ hj]
    exact (h.row.grownN hg fun b e e' => h.neB j hj (by rw [e, e'])).set_ j v
  · by_cases hcj : c = j
    · subst hcj
      rw [updF_j, updF_j]
      exact hv.grown IsR.stb (zcf W B c v) fun b e => by cases e; exact ⟨hvB, fun hlt => by have := h.hB; omega⟩
    · rw [updF_o _ _ hcj, updF_o _ _ hcj]
      have h1 := (h.own c hc).grown IsR.stb hg fun b e => ⟨h.sep j c hj hc (Ne.symm hcj) b e, fun hlt => by have := (OwnS.own_lt (h.own j hj) b e).1; omega⟩
      exact h1.grown IsR.stb (zcf W B j v) fun b e => by cases e; exact ⟨h.neB c hc, fun hlt => by have := h.hB; omega⟩
  · by_cases hcj : c = j
    · subst hcj; rw [updF_j]; exact hvB
    · rw [updF_o _ _ hcj]; exact h.neB c hc
  · by_cases hcj : c = j
    · subst hcj
      rw [updF_j] at hb
      rw [updF_o _ _ (Ne.symm hcd)]
      rcases ho with e | ⟨b', e, hb'⟩
      · rw [e] at hb; exact h.sep c d hc hd hcd b hb
      · rw [e] at hb; cases hb
        intro e2
        have := (OwnS.own_lt (h.own d hd) _ e2).2
        omega
    · rw [updF_o _ _ hcj] at hb
      by_cases hdj : d = j
      · subst hdj
        rw [updF_j]
        rcases ho with e | ⟨b', e, hb'⟩
        · rw [e]; exact h.sep c d hc hd hcd b hb
        · rw [e]; intro e2; cases e2
          have := (OwnS.own_lt (h.own c hc) _ hb).2
          omega
      · rw [updF_o _ _ hdj]; exact h.sep c d hc hd hcd b hb
theorem TurnW.start {w : World} {B m base : Nat} (h : Row w B 29 (List.replicate m (.slice none 0 0))) (hB : base ≤ B) : TurnW w B m base (fun _ => .slice none 0 0) (fun _ => []) := by
  refine ⟨?_, fun c hc => OwnS.nil fun b hb => Nat.lt_of_lt_of_le hb (Nat.le_trans hB (Nat.le_of_lt h.lt)), fun c hc e => (by cases e), fun c d _ _ _ b e => (by cases e), hB⟩
  rw [show (List.range m).map (fun _ => Value.slice none 0 0) = List.replicate m (.slice none 0 0) by rw [List.map_const', List.length_range]]
  exact h
theorem bndV_ok {v : Value} {l : List Rat} (h : ∀ q ∈ l, Sz q 1024) : bndV v l = .returned (.tuple #[v, .int .i64 0]) := by
  unfold bndV
  have e : l.all fitsQ = true := List.all_eq_true.2 fun q hq => fitsQ_true.2 (h q hq)
  rw [e]
  rfl
theorem bndM_ok {v : Value} {m : List (List Rat)} (h : ∀ r ∈ m, ∀ q ∈ r, Sz q 1024) : bndM v m = .returned (.tuple #[v, .int .i64 0]) := by
  unfold bndM
  have e : (m.all fun l => l.all fitsQ) = true := List.all_eq_true.2 fun r hr => List.all_eq_true.2 fun q hq => fitsQ_true.2 (h r hr q hq)
  rw [e]
  rfl
theorem col_head {M : List (List Rat)} {n m : Nat} (hn : M.length = n) (hn1 : 1 ≤ n) (hrow : ∀ r ∈ M, r.length = m) : ((rawM M).headD []).length = m := by
  cases M with
  | nil => simp at hn; omega
  | cons a t => simp only [rawM, List.map_cons, List.headD_cons]; rw [zbh]; exact hrow a (by simp)
def zcu (s : RS) (m k : Nat) : List (List Rat) := (List.range k).map fun i => rowQ s.A s.piv.length s.d i 0 m
theorem formTo_snoc (s : RS) (m k : Nat) : zcu s m (k + 1) = zcu s m k ++ [rowQ s.A s.piv.length s.d k 0 m] := by unfold zcu; rw [List.range_succ, List.map_append]; rfl
theorem formTo_len (s : RS) (m k : Nat) : (zcu s m k).length = k := by simp [zcu]
def IsPv (w : World) (S : Nat → Prop) (v : Value) (l : List Nat) : Prop := ∃ A c, v = .slice A l.length c ∧ IsS 1 IsVal w S (.slice A l.length c) (l.map fun (k : Nat) => Value.int .i64 (k : Int))
theorem IsPv.stb : Stb IsPv := fun w w' S T v l ⟨A, c, e, h⟩ hs => ⟨A, c, e, (IsS.stb IsVal.stb).to h hs⟩
set_option maxRecDepth 100000 in
set_option maxHeartbeats 4000000 in
theorem echelon_l {w : World} {v : Value} {M : List (List Rat)} {n m : Nat} {s : RS} (h : IsM w (Old w) v (rawM M)) (hB : Bru w) (hn : M.length = n) (hrow : ∀ r ∈ M, r.length = m) (hs : ∀ r ∈ M, ∀ q ∈ r, Sz q 1024) (hn1 : 1 ≤ n) (hn9 : n ≤ 40) (hm1 : 1 ≤ m) (hm9 : m ≤ 40) (hf : chkM (rawM M) = 0)
    (hbnd : ∀ k, k ≤ m → BndS n m (runK n m (zcw M) k)) (hsr : s = runK n m (zcw M) m) (hfit : ∀ r ∈ zcu s m n, ∀ q ∈ r, Sz q 1024) :
    Calls Tryd.prog 25 #[v] w fun e w' => (∃ v' vp, e = .returned (.tuple #[v', vp, .int .i64 0]) ∧ IsM w' (Old w') v' (rawM (zcu s m n)) ∧ IsPv w' (Old w') vp s.piv) ∧ Below w.heap.size w w' := by
  have HM := Lib.hid h
  have HB := Lib.hid hB
  have Hn := Lib.hid hn
  have Hs := Lib.hid hs
  have Hrow := Lib.hid hrow
  have HF := Lib.hid hf
  have Hbnd := Lib.hid hbnd
  have Hsr := Lib.hid hsr
  have Hfit := Lib.hid hfit
  have hcol := Lib.hid (col_head hn hn1 hrow)
  obtain ⟨A, cA, rfl, _⟩ := zdk h
  have eln : (rawM M).length = n := by rw [zda]; exact hn
  rw [eln] at HM
  rw [eln]
  clear h hB hn hs hrow hf hbnd hsr hfit eln
  go_enter Tryd.func25, Tryd.ntmps25
  go_wp2_with fail
  refine (form_l HM.out HB.out).mono ?_
  rw [HF.out]
  rintro e w1 ⟨rfl, hb1⟩
  have HB1 := Lib.hid hb1
  clear hb1
  go_wp2_with fail
  refine (columns_l (IsM.stb.next HM.out HB1.out)).mono ?_
  rw [hcol.out]
  rintro e w1' ⟨rfl, rfl⟩
  go_wp2_with fail
  have hc := reduced_l (IsM.stb.next HM.out HB1.out) (Bru.next HB.out HB1.out) Hn.out Hrow.out Hs.out hn1 hn9 hm1 (by omega) (width := m) (Nat.le_refl m) Hbnd.out
  rw [← Hsr.out] at hc
  refine hc.mono ?_
  clear hc
  rintro e w3 ⟨⟨v3, rfl, hg⟩, hb3⟩
  have HGr := Lib.hid hg
  obtain ⟨G, r0, c0, S', rb, cp, Pv, D, cv, cd, rfl, hGr⟩ := hg
  have HG := Lib.hid hGr
  have HW3 := Lib.hid (zaa HB1.out hb3)
  clear hb3 hGr
  go_wp2_with fail
  go_loopw [19, 2, 7] (fun ii ov _ wr => ∃ (i : Nat) (S : Nat → Prop), i ≤ n ∧ ii = .int .i64 (i : Int) ∧ Below w3.heap.size w3 wr ∧ Hid (OwnS 1 29 IsV wr w3.heap.size S ov (rawM (zcu s m i)))) (fun ii _ _ _ => n - (intOf ii).toNat)
  case atStart => exact ⟨0, fun _ => False, Nat.zero_le _, rfl, Below.refl _ _, OwnS.nil (fun b hb => hb.elim)⟩
  case round =>
    obtain ⟨i, S2, hi, rfl, hbw, hown⟩ := hrel
    have HWr := Lib.hid hbw
    rcases Nat.lt_or_ge i n with hlt | hge
    · have Hlt := Lib.hid hlt
      clear hbw
      go_wp2_with fail
      have hG := HG.out
      have hbs := Hbnd.out m (Nat.le_refl m)
      rw [← Hsr.out] at hbs
      have hlp : s.piv.length ≤ n := by rw [Hsr.out]; exact runK_len m
      refine (row_s (k0 := 0) (hG.mat.next HWr.out (fun b h => h) (fun b h => .inl h)) (hG.row.next HWr.out) (IsK.stb.to hG.num fun b hb => ⟨hb, fun o => HWr.out.cell (p := ⟨b, o, none⟩) (hG.mat.sS b hb)⟩) (Bru.next HB.out (zaa HW3.out HWr.out)) (by omega) (by omega) (by omega) hlt (by omega)
        (fun j hj => bnd_len hbs hlt hj) hbs.2.1 (Nat.pos_iff_ne_zero.1 hbs.2.2)).mono ?_
      rintro e w5 ⟨⟨v5, rfl, hv5⟩, hb5⟩
      rw [Nat.sub_zero] at hv5
      have Own5 := Lib.hid (OwnS.step IsV.stb (T := fun b => S2 b ∨ (wr.heap.size ≤ b ∧ b < w5.heap.size)) hown.out hb5 (fun b h => .inl h) (fun b h => h))
      have El5 : Hid (IsV w5 (fun b => S2 b ∨ (wr.heap.size ≤ b ∧ b < w5.heap.size)) v5 (rawV (rowQ s.A s.piv.length s.d i 0 m))) := IsV.stb.to hv5 (zaz fun b h => .inr h)
      obtain ⟨P5, k5, rfl, _⟩ := zcb hv5
      have HW5 := Lib.hid (zaa HWr.out hb5)
      have hbase : w3.heap.size ≤ w5.heap.size := HW5.out.size
      have hlt := Hlt.out
      clear hv5 hb5 hG hbs hlp
      go_wp2_with (at_builtin; refine zcx elV rfl _ _ rfl IsV.stb rfl rfl rfl Own5.out El5.out rfl (by intro u hu; simp [Value.cells] at hu; subst hu; rfl) (by rw [zda, formTo_len]; omega) hbase ?_; intro v7 w7 hown7 hb7 hz7)
      go_roundw
      case rel =>
        refine ⟨i + 1, fun b => S2 b ∨ (wr.heap.size ≤ b ∧ b < w5.heap.size), hlt, by go_num, HW5.out.trans hb7, ?_⟩
        rw [formTo_snoc, rawM_one]
        exact hown7
      case measure => simp [intOf]; omega
    · obtain rfl : i = n := by omega
      have hik : ¬ i < i := by omega
      have HI8 : Hid (IsM wr (Old wr) _ (rawM (zcu s m i))) := hown.out.isS IsV.stb (fun b h => by obtain ⟨_, _, _, _, h4⟩ := hown.out; exact (h4 b h).1) (fun b _ h => h)
      clear hbw
      go_wp2_with fail
      refine (boundedRows_l HI8.out).mono ?_
      rw [bndM_ok Hfit.out]
      rintro e w9 ⟨rfl, hb9⟩
      have HW9 := Lib.hid (zaa HWr.out hb9)
      have V9 := Lib.hid (IsM.stb.next HI8.out hb9)
      have R9 := Lib.hid (HG.out.row.next HW9.out)
      have P9 := Lib.hid ((IsS.stb IsVal.stb).to HG.out.piv (zax HW9.out))
      have g1 := R9.out.cell 1
      simp at g1
      obtain ⟨np, hnp⟩ : ∃ x, x = s.piv.length := ⟨_, rfl⟩
      rw [← hnp] at g1
      have Hnp := Lib.hid hnp
      obtain ⟨A8, c8, hA8, _⟩ := zdk V9.out
      subst hA8
      clear hb9 hnp
      go_wp2_with fail
      go_quiet (fail)
      go_wp2_with fail
      go_ret3
      have hd := Dr.below (w := w9) (w' := w9.drewN nq) ⟨nq, rfl⟩ w9.heap.size
      exact ⟨⟨_, .slice Pv np cv, rfl, IsM.stb.next V9.out hd, ⟨Pv, cv, congrArg (fun z => Value.slice Pv z cv) Hnp.out, (IsS.stb IsVal.stb).to P9.out (zax hd)⟩⟩, zaa (zaa HW3.out HW9.out) hd⟩
end Go.Proofs.YtblpaocignlpkaaDoor
