/-
  Plain facts on lists of limbs and the numbers that they are; no program in sight.
-/
import Derived.WalkKit
import Derived.WalkSpells
import Derived.WalkLawsBesides
import Derived.BigQuiet
import Derived.Deep.QuietTactic
import Derived.Lib.Hide
import Derived.Maps.AppendAt
import Derived.Deep.AppendLies
namespace Go.Proofs.YtjkgdggkgljdoaaDoor
def val : List Nat → Nat
  | [] => 0
  | x :: l => x + 1000000000 * val l
def lim (n : Nat) : List Nat := if n = 0 then [] else n % 1000000000 :: lim (n / 1000000000)
termination_by n
decreasing_by omega
def Lo (l : List Nat) : Prop := ∀ x ∈ l, x < 1000000000
def pw (k : Nat) : Nat := 1000000000 ^ k
theorem pw_zero : pw 0 = 1 := rfl
theorem pw_one : pw 1 = 1000000000 := by simp [pw]
theorem zby (k : Nat) : pw (k + 1) = 1000000000 * pw k := by simp [pw, Nat.pow_succ, Nat.mul_comm]
theorem zff (k : Nat) : 0 < pw k := Nat.pow_pos (by omega)
theorem pw_add (a b : Nat) : pw (a + b) = pw a * pw b := by simp [pw, Nat.pow_add]
theorem pw_mono {a b : Nat} (h : a ≤ b) : pw a ≤ pw b := Nat.pow_le_pow_right (by omega) h
theorem zbd : lim 0 = [] := by rw [lim]; simp
theorem zeo {n : Nat} (h : n ≠ 0) : lim n = n % 1000000000 :: lim (n / 1000000000) := by rw [lim]; simp [h]
theorem zez : val [] = 0 := rfl
theorem zfi (x : Nat) (l : List Nat) : val (x :: l) = x + 1000000000 * val l := rfl
theorem zbx (a b : List Nat) : val (a ++ b) = val a + pw a.length * val b := by
  induction a with
  | nil => simp [val, pw]
  | cons x a ih =>
    simp only [List.cons_append, val, ih, List.length_cons, zby]
    grind
theorem zbf (n : Nat) : val (lim n) = n := by
  induction n using Nat.strongRecOn with
  | _ n ih =>
    by_cases h : n = 0
    · subst h; simp [zbd, val]
    · rw [zeo h, val, ih _ (by omega)]; omega
theorem lo_nil : Lo [] := by intro x hx; cases hx
theorem lo_cons {x : Nat} {l : List Nat} : Lo (x :: l) ↔ x < 1000000000 ∧ Lo l := by simp [Lo]
theorem lo_append {a b : List Nat} : Lo (a ++ b) ↔ Lo a ∧ Lo b := by
  simp only [Lo, List.mem_append]
  exact ⟨fun h => ⟨fun x hx => h x (.inl hx), fun x hx => h x (.inr hx)⟩, fun h x hx => hx.elim (h.1 x) (h.2 x)⟩
theorem zdf {l : List Nat} (h : Lo l) (k : Nat) : Lo (l.take k) := fun x hx => h x (List.mem_of_mem_take hx)
theorem lo_drop {l : List Nat} (h : Lo l) (k : Nat) : Lo (l.drop k) := fun x hx => h x (List.mem_of_mem_drop hx)
theorem zep {l : List Nat} (h : Lo l) (k : Nat) : l.getD k 0 < 1000000000 := by
  rw [List.getD_eq_getElem?_getD]
  by_cases hk : k < l.length
  · rw [List.getElem?_eq_getElem hk]; exact h _ (List.getElem_mem hk)
  · rw [List.getElem?_eq_none (by omega)]; simp
theorem zbh (n : Nat) : Lo (lim n) := by
  induction n using Nat.strongRecOn with
  | _ n ih =>
    by_cases h : n = 0
    · subst h; rw [zbd]; exact lo_nil
    · rw [zeo h, lo_cons]; exact ⟨Nat.mod_lt _ (by omega), ih _ (by omega)⟩
theorem lim_val_of {l : List Nat} (h : Lo l) (hl : l.getLastD 1 ≠ 0) : lim (val l) = l := by
  induction l with
  | nil => simp [val, zbd]
  | cons x l ih =>
    rw [lo_cons] at h
    have hv : val (x :: l) ≠ 0 := by
      intro e
      simp only [val] at e
      have hx : x = 0 := by omega
      have hz : val l = 0 := by omega
      cases l with
      | nil => simp [hx] at hl
      | cons y l' =>
        have := ih h.2 (by simpa using hl)
        rw [hz, zbd] at this
        cases this
    rw [zeo hv]
    simp only [val]
    have h1 : (x + 1000000000 * val l) % 1000000000 = x := by omega
    have h2 : (x + 1000000000 * val l) / 1000000000 = val l := by omega
    rw [h1, h2]
    congr 1
    apply ih h.2
    cases l with
    | nil => simp
    | cons y l' => simpa using hl
theorem last_lim (n : Nat) : (lim n).getLastD 1 ≠ 0 := by
  induction n using Nat.strongRecOn with
  | _ n ih =>
    by_cases h : n = 0
    · subst h; simp [zbd]
    · rw [zeo h]
      have := ih (n / 1000000000) (by omega)
      by_cases h2 : n / 1000000000 = 0
      · rw [h2, zbd]; simp; omega
      · rw [zeo h2] at this ⊢
        simpa using this
theorem zea {l : List Nat} (h : Lo l) : val l < pw l.length := by
  induction l with
  | nil => simp [val, pw]
  | cons x l ih =>
    rw [lo_cons] at h
    have := ih h.2
    simp only [val, List.length_cons, zby]
    omega
theorem lim_len_le {n k : Nat} : (lim n).length ≤ k ↔ n < pw k := by
  induction k generalizing n with
  | zero =>
    by_cases h : n = 0
    · subst h; simp [zbd, pw]
    · rw [zeo h]; simp [pw]; omega
  | succ k ih =>
    by_cases h : n = 0
    · subst h; simp [zbd, zff]
    · rw [zeo h, List.length_cons, zby]
      have := ih (n := n / 1000000000)
      constructor
      · intro hk
        have := this.1 (by omega)
        omega
      · intro hk
        have := this.2 (by omega)
        omega
theorem lim_len_lt {n k : Nat} : k < (lim n).length ↔ pw k ≤ n := by
  have := lim_len_le (n := n) (k := k)
  omega
theorem lim_lt (n : Nat) : n < pw (lim n).length := lim_len_le.1 (Nat.le_refl _)
theorem zas {a b : Nat} (h : a ≤ b) : (lim a).length ≤ (lim b).length := lim_len_le.2 (Nat.lt_of_le_of_lt h (lim_lt b))
theorem lim_len_mul (a b : Nat) : (lim (a * b)).length ≤ (lim a).length + (lim b).length := by
  rw [lim_len_le, pw_add]
  have ha := lim_lt a
  have hb := lim_lt b
  have := Nat.mul_le_mul (Nat.succ_le_of_lt ha) (Nat.succ_le_of_lt hb)
  grind
theorem lim_len_add (a b : Nat) : (lim (a + b)).length ≤ max (lim a).length (lim b).length + 1 := by
  rw [lim_len_le, zby]
  have ha := Nat.lt_of_lt_of_le (lim_lt a) (pw_mono (Nat.le_max_left (lim a).length (lim b).length))
  have hb := Nat.lt_of_lt_of_le (lim_lt b) (pw_mono (Nat.le_max_right (lim a).length (lim b).length))
  omega
theorem lim_nil_iff {n : Nat} : (lim n).length = 0 ↔ n = 0 := by
  have := lim_len_le (n := n) (k := 0)
  simp only [pw_zero] at this
  omega
theorem lim_inj {a b : Nat} (h : lim a = lim b) : a = b := by rw [← zbf a, ← zbf b, h]
theorem val_zeros {l : List Nat} (h : ∀ x ∈ l, x = 0) : val l = 0 := by
  induction l with
  | nil => rfl
  | cons x l ih =>
    simp only [val]
    have h1 := h x (by simp)
    have h2 := ih (fun y hy => h y (by simp [hy]))
    omega
theorem val_take_of_zeros {l : List Nat} {m : Nat} (h : ∀ j, m ≤ j → j < l.length → l.getD j 0 = 0) : val (l.take m) = val l := by
  have e : val l = val (l.take m ++ l.drop m) := by rw [List.take_append_drop]
  rw [e, zbx, val_zeros (l := l.drop m), Nat.mul_zero, Nat.add_zero]
  intro x hx
  obtain ⟨j, hj, rfl⟩ := List.getElem_of_mem hx
  rw [List.getElem_drop]
  have := h (m + j) (by omega) (by simp at hj; omega)
  rw [List.getD_eq_getElem?_getD, List.getElem?_eq_getElem (by simp at hj; omega)] at this
  simpa using this
theorem trim_to {l : List Nat} {m : Nat} (hl : Lo l) (hm : m ≤ l.length) (h : ∀ j, m ≤ j → j < l.length → l.getD j 0 = 0) (hlast : m = 0 ∨ l.getD (m - 1) 0 ≠ 0) :
    lim (val l) = l.take m := by
  rw [← val_take_of_zeros h]
  apply lim_val_of (zdf hl m)
  rcases hlast with rfl | hne
  · simp
  · by_cases h0 : m = 0
    · subst h0; simp
    · rw [List.getLastD_eq_getLast?, List.getLast?_eq_getElem?, List.length_take, Nat.min_eq_left hm, List.getElem?_take, if_pos (by omega)]
      rw [List.getD_eq_getElem?_getD] at hne
      cases hx : l[m - 1]? with
      | none => rw [List.getElem?_eq_none_iff] at hx; omega
      | some x => rw [hx] at hne; simpa using hne
theorem lim_val_len {l : List Nat} (hl : Lo l) : (lim (val l)).length ≤ l.length := lim_len_le.2 (zea hl)
theorem lim_small {n : Nat} (h : n < 1000000000) (h0 : n ≠ 0) : lim n = [n] := by
  rw [zeo h0, Nat.div_eq_of_lt h, zbd, Nat.mod_eq_of_lt h]
theorem val_take_succ {l : List Nat} {k : Nat} (h : k < l.length) : val (l.take (k + 1)) = val (l.take k) + pw k * l.getD k 0 := by
  rw [List.take_succ_eq_append_getElem h, zbx, List.length_take, Nat.min_eq_left (Nat.le_of_lt h), List.getD_eq_getElem?_getD, List.getElem?_eq_getElem h]
  simp [val]
theorem zfj {l : List Nat} {k : Nat} (h : k < l.length) : val (l.drop k) = l.getD k 0 + 1000000000 * val (l.drop (k + 1)) := by
  rw [List.drop_eq_getElem_cons h, val, List.getD_eq_getElem?_getD, List.getElem?_eq_getElem h]
  rfl
theorem zdk (l : List Nat) (k : Nat) (h : k ≤ l.length) : val l = val (l.take k) + pw k * val (l.drop k) := by
  have e : val l = val (l.take k ++ l.drop k) := by rw [List.take_append_drop]
  rw [e, zbx, List.length_take, Nat.min_eq_left h]
theorem zfb (n k : Nat) : (lim n).getD k 0 = n / pw k % 1000000000 := by
  induction k generalizing n with
  | zero =>
    by_cases h : n = 0
    · subst h; simp [zbd, pw]
    · rw [zeo h]; simp [pw]
  | succ k ih =>
    by_cases h : n = 0
    · subst h; simp [zbd]
    · rw [zeo h, zby, ← Nat.div_div_eq_div_mul]
      simpa using ih (n / 1000000000)
end Go.Proofs.YtjkgdggkgljdoaaDoor
namespace Go.Proofs.YtjkgdggkgljdoaaDoor
open Go.RowKit
def cel (k : IntKind) (l : List Nat) : List Value := l.map fun (n : Nat) => Value.int k (n : Int)
theorem zbo (k : IntKind) (l : List Nat) : (cel k l).length = l.length := by simp [cel]
theorem cel_append (k : IntKind) (a b : List Nat) : cel k (a ++ b) = cel k a ++ cel k b := by simp [cel]
theorem cel_getElem? (k : IntKind) (l : List Nat) (j : Nat) : (cel k l)[j]? = l[j]?.map fun (n : Nat) => Value.int k (n : Int) := by simp [cel]
theorem cel_nil_iff {k : IntKind} {l : List Nat} : cel k l = [] ↔ l = [] := by simp [cel]
theorem zbm {k : IntKind} {l : List Nat} {j : Nat} (h : j + 1 ≤ l.length) : cel k l ≠ [] := by
  rw [ne_eq, cel_nil_iff]
  rintro rfl
  simp at h
theorem cel_one (k : IntKind) (l : List Nat) : ∀ u ∈ cel k l, u.oneCell' = true := by
  intro u hu
  simp only [cel, List.mem_map] at hu
  obtain ⟨n, _, rfl⟩ := hu
  rfl
theorem cel_take (k : IntKind) (l : List Nat) (n : Nat) : cel k (l.take n) = (cel k l).take n := by simp [cel]
theorem cel_drop (k : IntKind) (l : List Nat) (n : Nat) : cel k (l.drop n) = (cel k l).drop n := by simp [cel]
theorem cel_set (k : IntKind) (l : List Nat) (i n : Nat) : cel k (l.set i n) = (cel k l).set i (.int k (n : Int)) := by simp [cel]
theorem cel_at {k : IntKind} {l : List Nat} {j : Nat} (h : j < l.length) : (cel k l)[j]? = some (.int k (l.getD j 0 : Nat)) := by
  rw [cel_getElem?, List.getElem?_eq_getElem h, List.getD_eq_getElem?_getD, List.getElem?_eq_getElem h]
  rfl
def SV (w : World) (lo hi : Nat) (A : Option Addr) (xs : List Value) : Prop :=
  xs ≠ [] → ∃ b off, A = some ⟨b, off, none⟩ ∧ lo ≤ b ∧ b < hi ∧ ∀ j v, xs[j]? = some v → w.cell? ⟨b, off + j, none⟩ = some v
section
variable {w w' : World} {lo hi lo' hi' : Nat} {A : Option Addr} {xs : List Value}
theorem SV.nil : SV w lo hi A [] := fun h => absurd rfl h
theorem SV.keep (h : SV w lo hi A xs) (hk : ∀ p : Addr, lo ≤ p.block → p.block < hi → w'.cell? p = w.cell? p) : SV w' lo hi A xs := fun hx => by
  obtain ⟨b, off, hA, h1, h2, hc⟩ := h hx
  exact ⟨b, off, hA, h1, h2, fun j v hv => (hk _ h1 h2).trans (hc j v hv)⟩
theorem SV.wide (h : SV w lo hi A xs) (h1 : lo' ≤ lo) (h2 : hi ≤ hi') : SV w lo' hi' A xs := fun hx => by
  obtain ⟨b, off, hA, g1, g2, hc⟩ := h hx
  exact ⟨b, off, hA, by omega, by omega, hc⟩
theorem SV.below {B : Nat} (h : SV w lo hi A xs) (hb : Below B w w') (hB : hi ≤ B) : SV w' lo hi A xs := h.keep fun p _ h2 => hb.cell (by omega)
theorem SV.drewN (h : SV w lo hi A xs) (n : Nat) : SV (w.drewN n) lo hi A xs := h
theorem SV.drew (h : SV w lo hi A xs) : SV w.drew lo hi A xs := h
theorem SV.alloc (h : SV w lo hi A xs) (hB : hi ≤ w.heap.size) (o : Obj) : SV (w.alloc o) lo hi A xs := h.keep fun p _ h2 => World.cell?_alloc_lt w o p (by omega)
theorem SV.setCell (h : SV w lo hi A xs) {p : Addr} (hB : p.block < lo ∨ hi ≤ p.block) (u : Value) : SV (w.setCell p u) lo hi A xs :=
  h.keep fun q h1 h2 => World.cell?_setCell_other w p q u (fun e => by subst e; omega)
theorem SV.grown {row : Option Nat} (h : SV w lo hi A xs) (hg : w.grownBy w' row) (hB : hi ≤ w.heap.size) (hr : ∀ g, row = some g → g < lo ∨ hi ≤ g) : SV w' lo hi A xs :=
  h.keep fun p h1 h2 => World.cell?_of_block (hg.block p.block (by omega) (fun e => by have := hr _ e.symm; omega))
theorem SV.take (h : SV w lo hi A xs) (n : Nat) : SV w lo hi A (xs.take n) := fun hx => by
  have hne : xs ≠ [] := by rintro rfl; simp at hx
  obtain ⟨b, off, hA, g1, g2, hc⟩ := h hne
  refine ⟨b, off, hA, g1, g2, fun j v hv => hc j v ?_⟩
  rw [List.getElem?_take] at hv
  split at hv
  · exact hv
  · cases hv
theorem SV.cut (h : SV w lo hi A xs) {k cap : Nat} (hc : xs.length ≤ cap) : SV w lo hi (if cap = k then A else A.map (·.add k)) (xs.drop k) := fun hx => by
  have hlen : k < xs.length := by
    rcases Nat.lt_or_ge k xs.length with h1 | h1
    · exact h1
    · exact absurd (List.drop_eq_nil_of_le h1) hx
  have hne : xs ≠ [] := by rintro rfl; simp at hlen
  obtain ⟨b, off, rfl, g1, g2, hcell⟩ := h hne
  rw [if_neg (by omega)]
  refine ⟨b, off + k, by simp [Addr.add_lit], g1, g2, fun j v hv => ?_⟩
  rw [Nat.add_assoc]
  exact hcell _ v (by rw [← hv, List.getElem?_drop])
theorem SV.at_ {b off : Nat} (h : SV w lo hi (some ⟨b, off, none⟩) xs) : ∀ j v, xs[j]? = some v → w.cell? ⟨b, off + j, none⟩ = some v := by
  intro j v hv
  obtain ⟨b', off', hA, _, _, hc⟩ := h (by rintro rfl; simp at hv)
  simp only [Option.some.injEq, Addr.mk.injEq, and_true] at hA
  obtain ⟨rfl, rfl⟩ := hA
  exact hc j v hv
theorem SV.news (h : SV w lo hi A xs) (hne : xs ≠ []) : ∃ ad, A = some ad ∧ ∀ j u, xs[j]? = some u → w.cell? (ad.add j) = some u := by
  obtain ⟨b, off, hA, _, _, hc⟩ := h hne
  exact ⟨_, hA, fun j u hu => by rw [Addr.add_lit]; exact hc j u hu⟩
end
def IsL (k : IntKind) (w : World) (lo hi : Nat) (v : Value) (l : List Nat) : Prop :=
  ∃ A c, v = .slice A l.length c ∧ l.length ≤ c ∧ c ≤ maxLen ∧ SV w lo hi A (cel k l)
def IsN (w : World) (lo hi : Nat) (v : Value) (n : Nat) : Prop := IsL .u32 w lo hi v (lim n)
section
variable {k : IntKind} {w w' : World} {lo hi lo' hi' : Nat} {v : Value} {l : List Nat}
theorem IsL.wide (h : IsL k w lo hi v l) (h1 : lo' ≤ lo) (h2 : hi ≤ hi') : IsL k w lo' hi' v l := by
  obtain ⟨A, c, rfl, hc, hm, hs⟩ := h
  exact ⟨A, c, rfl, hc, hm, hs.wide h1 h2⟩
theorem IsL.keep (h : IsL k w lo hi v l) (hk : ∀ p : Addr, lo ≤ p.block → p.block < hi → w'.cell? p = w.cell? p) : IsL k w' lo hi v l := by
  obtain ⟨A, c, rfl, hc, hm, hs⟩ := h
  exact ⟨A, c, rfl, hc, hm, hs.keep hk⟩
theorem IsL.below {B : Nat} (h : IsL k w lo hi v l) (hb : Below B w w') (hB : hi ≤ B) : IsL k w' lo hi v l := h.keep fun p _ h2 => hb.cell (by omega)
theorem IsL.drewN (h : IsL k w lo hi v l) (n : Nat) : IsL k (w.drewN n) lo hi v l := h
theorem IsN.drewN {n : Nat} (h : IsN w lo hi v n) (m : Nat) : IsN (w.drewN m) lo hi v n := IsL.drewN h m
theorem IsN.below {n B : Nat} (h : IsN w lo hi v n) (hb : Below B w w') (hB : hi ≤ B) : IsN w' lo hi v n := IsL.below h hb hB
theorem IsN.wide {n : Nat} (h : IsN w lo hi v n) (h1 : lo' ≤ lo) (h2 : hi ≤ hi') : IsN w lo' hi' v n := IsL.wide h h1 h2
theorem IsN.keep {n : Nat} (h : IsN w lo hi v n) (hk : ∀ p : Addr, lo ≤ p.block → p.block < hi → w'.cell? p = w.cell? p) : IsN w' lo hi v n := IsL.keep h hk
theorem IsL.nil : IsL k w lo hi (.slice none 0 0) [] := ⟨none, 0, rfl, Nat.le_refl _, by unfold maxLen; omega, SV.nil⟩
theorem IsN.zero : IsN w lo hi (.slice none 0 0) 0 := by unfold IsN; rw [zbd]; exact IsL.nil
theorem IsL.length_le (h : IsL k w lo hi v l) : l.length ≤ maxLen := by
  obtain ⟨A, c, rfl, hc, hm, hs⟩ := h
  omega
end
theorem zen {k : IntKind} {w : World} {b off j : Nat} {l : List Nat} (hc : ∀ j v, (cel k l)[j]? = some v → w.cell? ⟨b, off + j, none⟩ = some v) (hj : j < l.length) :
    ∃ x : Int, Hid (x = (l.getD j 0 : Nat)) ∧ 0 ≤ x ∧ w.cell? ⟨b, off + j, none⟩ = some (.int k x) :=
  ⟨_, rfl, by omega, hc j _ (cel_at hj)⟩
theorem zbl {k : IntKind} {w : World} {b off j : Nat} {l : List Nat} (hl : Lo l) (hc : ∀ j v, (cel k l)[j]? = some v → w.cell? ⟨b, off + j, none⟩ = some v) (hj : j < l.length) :
    ∃ x : Int, Hid (x = (l.getD j 0 : Nat)) ∧ 0 ≤ x ∧ x ≤ 999999999 ∧ w.cell? ⟨b, off + j, none⟩ = some (.int k x) :=
  ⟨_, rfl, by omega, by have := zep hl j; omega, hc j _ (cel_at hj)⟩
def Row (w : World) (g : Nat) (t : TypeId) (xs : List Value) : Prop := w.heap[g]? = some (.cells xs.toArray t (0, 0))
section
variable {w w' : World} {g : Nat} {t : TypeId} {xs : List Value}
theorem Row.lt (h : Row w g t xs) : g < w.heap.size := by
  rcases Nat.lt_or_ge g w.heap.size with hlt | hge
  · exact hlt
  · unfold Row at h; rw [Array.getElem?_eq_none hge] at h; cases h
theorem Row.cell (h : Row w g t xs) (i : Nat) : w.cell? ⟨g, i, none⟩ = xs[i]? := by rw [cell_of_row w g i _ t (0, 0) h]; simp
theorem Row.frozen (h : Row w g t xs) (i : Nat) : w.frozen? ⟨g, i, none⟩ = false := by unfold Row at h; simp [World.frozen?, h]
theorem Row.drewN (h : Row w g t xs) (n : Nat) : Row (w.drewN n) g t xs := h
theorem Row.drew (h : Row w g t xs) : Row w.drew g t xs := h
theorem Row.alloc (h : Row w g t xs) (o : Obj) : Row (w.alloc o) g t xs := (Below.heap_alloc w o g h.lt).trans h
theorem Row.set_ (h : Row w g t xs) (i : Nat) (u : Value) : Row (w.setCell ⟨g, i, none⟩ u) g t (xs.set i u) := by
  unfold Row at h ⊢
  simp [World.setCell, Array.getElem?_modify, h]
theorem Row.far (h : Row w g t xs) {p : Addr} (hp : g ≠ p.block) (u : Value) : Row (w.setCell p u) g t xs := (Below.heap_setCell w p u g hp).trans h
theorem Row.below {B : Nat} (h : Row w g t xs) (hb : Below B w w') (hg : g < B) : Row w' g t xs := (hb.block g hg).trans h
theorem Row.grown {row : Option Nat} (h : Row w g t xs) (hb : w.grownBy w' row) (hg : some g ≠ row) : Row w' g t xs := (hb.block g h.lt hg).trans h
theorem Row.sv (h : Row w g t xs) : SV w g (g + 1) (some ⟨g, 0, none⟩) xs := fun _ => ⟨g, 0, rfl, Nat.le_refl _, Nat.lt_succ_self _, fun j v hv => by rw [Nat.zero_add, h.cell]; exact hv⟩
theorem Row.num {k : IntKind} {l : List Nat} (h : Row w g t (cel k l)) {i : Nat} (hi : i < l.length) : ∃ x : Int, Hid (x = (l.getD i 0 : Nat)) ∧ 0 ≤ x ∧ w.cell? ⟨g, i, none⟩ = some (.int k x) :=
  ⟨_, rfl, by omega, by rw [h.cell, cel_at hi]⟩
theorem Row.lo {k : IntKind} {l : List Nat} (h : Row w g t (cel k l)) (hl : Lo l) {i : Nat} (hi : i < l.length) :
    ∃ x : Int, Hid (x = (l.getD i 0 : Nat)) ∧ 0 ≤ x ∧ x ≤ 999999999 ∧ w.cell? ⟨g, i, none⟩ = some (.int k x) :=
  ⟨_, rfl, by omega, by have := zep hl i; omega, by rw [h.cell, cel_at hi]⟩
theorem Row.setNum {k : IntKind} {l : List Nat} (h : Row w g t (cel k l)) (i n : Nat) (x : Int) (hx : x = (n : Int)) : Row (w.setCell ⟨g, i, none⟩ (.int k x)) g t (cel k (l.set i n)) := by
  subst hx; rw [cel_set]; exact h.set_ i _
end
theorem zbq {l : List Nat} {i j x : Nat} (h : i ≠ j) : (l.set i x).getD j 0 = l.getD j 0 := by simp [List.getD_eq_getElem?_getD, List.getElem?_set_ne h]
theorem zcc {l : List Nat} (h : Lo l) {i x : Nat} (hx : x < 1000000000) : Lo (l.set i x) := fun y hy => by
  rcases List.mem_or_eq_of_mem_set hy with h1 | h1
  · exact h y h1
  · omega
theorem wpList_make_row {P : Program} (w : World) {ops : Array Oper} {rest : List Oper} {o : Oper} {a : Act} {Q : Exit → Act → World → Prop}
    (hg : o.guard = none) (l c : Operand) (t : TypeId) (hop : o.op = Op.makeSlice t l c)
    (e : TypeId) (i : TypeInfo) (k : IntKind) (h1 : P.underlying t = some (.slice e)) (h2 : P.info? e = some i) (h3 : i.zero = some (.int k 0)) (h4 : i.size = 1)
    (kl kc : IntKind) (L C : Int) (n : Nat) (hl : a.eval l = .int kl L) (hc : a.eval c = .int kc C) (hL : L = (n : Int)) (hC : C = (n : Int)) (b2 : i.bytes * n ≤ 281474976710656) (b3 : n ≤ maxLen)
    (hK : ∀ w', Row w' w.heap.size e (cel k (List.replicate n 0)) → Below w.heap.size w w' → w'.heap.size = w.heap.size + 1 → wpList P ops Q rest (a.put o.dst (.slice (some ⟨w.heap.size, 0, none⟩) n n)) w') :
    wpList P ops Q (o :: rest) a w := by
  refine wpList_plain hg fun K hK' => ?_
  have hb' : (i.bytes : Int) * (n : Int) ≤ 281474976710656 := by
    have h : ((i.bytes * n : Nat) : Int) ≤ 281474976710656 := by omega
    rwa [Int.natCast_mul] at h
  have hr := run_make (P := P) w t e i (.int k 0) h1 h2 h3 kl kc n n (by omega) (Int.le_refl _) hb' (by simp only [maxLen] at b3; omega)
  simp only [Int.toNat_natCast] at hr
  subst hL
  subst hC
  unfold Oper.wp
  simp [execOp, hop, hl, hc, hr, Result.andThen]
  refine hK' _ _ (hK _ ?_ ((Below.refl _ _).alloc (Nat.le_refl _) _) (by simp))
  unfold Row
  have hm : (cel k (List.replicate n 0)).toArray = madeCells (Value.int k 0).cells (n * i.size) := by
    apply Array.ext'
    rw [h4, Nat.mul_one]
    show _ = (madeCells #[.int k 0] n).toList
    rw [toList_madeCells_one]
    simp [cel]
  rw [hm]
  exact heap_alloc_new w _
def Own (w : World) (base : Nat) (e : TypeId) (v : Value) (xs : List Value) : Prop := w.ownsRow base e 1 v xs.length xs
theorem Own.sl {w : World} {base : Nat} {e : TypeId} {v : Value} {xs : List Value} (h : Own w base e v xs) :
    ∃ A c, v = .slice A xs.length c ∧ xs.length ≤ c ∧ c ≤ maxLen ∧ SV w base w.heap.size A xs := by
  have h0 := h
  rcases h.2 with ⟨hv, hn⟩ | ⟨g, cap, cur, hv, hb, hh, hn, hcm, hcs, htake⟩
  · have hx : xs = [] := List.eq_nil_of_length_eq_zero hn
    subst hx
    exact ⟨none, 0, by simpa using hv, Nat.le_refl _, by unfold maxLen; omega, SV.nil⟩
  · refine ⟨some ⟨g, 0, none⟩, cap, hv, hn, hcm, fun _ => ⟨g, 0, rfl, hb, (Array.getElem?_eq_some_iff.1 hh).1, fun j u hu => ?_⟩⟩
    subst hv
    have := World.ownsRow.cells h0 (g := g) rfl j u hu
    rw [Addr.add_lit] at this
    exact this
theorem Own.isL {k : IntKind} {w : World} {base : Nat} {e : TypeId} {v : Value} {l : List Nat} (h : Own w base e v (cel k l)) : IsL k w base w.heap.size v l := by
  obtain ⟨A, c, hv, h1, h2, h3⟩ := h.sl
  rw [zbo] at hv h1
  exact ⟨A, c, hv, h1, h2, h3⟩
theorem Own.nil (w : World) (base : Nat) (e : TypeId) : Own w base e (.slice none 0 0) [] := World.ownsRow_nil w base e 1
theorem Own.below {w w' : World} {base : Nat} {e : TypeId} {v : Value} {xs : List Value} (h : Own w base e v xs) (hb : Below w.heap.size w w') : Own w' base e v xs :=
  World.ownsRow.kept (row := none) h ⟨hb.os, hb.tape, hb.output, hb.size, fun k hk _ => hb.block k hk⟩ (by cases v.ownBlock <;> simp)
theorem Own.drewN {w : World} {base : Nat} {e : TypeId} {v : Value} {xs : List Value} (h : Own w base e v xs) (n : Nat) : Own (w.drewN n) base e v xs := h.below ⟨rfl, rfl, rfl, Nat.le_refl _, fun _ _ => rfl⟩
section
variable {P : Program} (w : World)
theorem run_app_nil (base : Nat) (t ty e : TypeId) (i : TypeInfo) (size : Nat) (ht : P.underlying t = some (.slice e)) (hi : P.info? e = some i)
    (v : Value) (n : Nat) (xs : List Value) (hown : w.ownsRow base e size v n xs) (c : Nat) : (Builtin.append_ #[t, t] ty #[v, .slice none 0 c]).run P w = .ok v w := by
  rcases hown.2 with ⟨rfl, rfl⟩ | ⟨g, cap, cur, rfl, _, _, hnc, _⟩
  · simp [Builtin.append_, run_underlying ht, sizeOf, typeInfo, hi, Builtin.lenOf, Builtin.firstCells]
  · simp [Builtin.append_, run_underlying ht, sizeOf, typeInfo, hi, Builtin.lenOf, Builtin.firstCells, hnc, storeCells]
theorem run_app (base : Nat) (t ty e : TypeId) (i : TypeInfo) (z : Value) (size bytes : Nat) (ht : P.underlying t = some (.slice e)) (hi : P.info? e = some i) (hz : i.zero = some z)
    (hsize : i.size = size) (hby : i.bytes = bytes) (hzs : z.cells.size = size) (hsz : 0 < size)
    (v : Value) (n : Nat) (xs : List Value) (hown : w.ownsRow base e size v n xs)
    (lo hi' : Nat) (A : Option Addr) (m c : Nat) (news : List Value) (hl : news.length = m * size) (hr : SV w lo hi' A news) (h1 : ∀ u ∈ news, u.oneCell' = true)
    (h63 : n + m ≤ maxLen) (hbytes : (n + m) * bytes ≤ 140737488355328) (hbase : base ≤ w.heap.size) :
    ∃ v' w', (Builtin.append_ #[t, t] ty #[v, .slice A m c]).run P w = .ok v' w' ∧ w'.ownsRow base e size v' (n + m) (xs ++ news) ∧ w.grownBy w' v.ownBlock ∧
      (v'.ownBlock = v.ownBlock ∨ v'.ownBlock = some w.heap.size) := by
  rcases A with _ | ad
  · have hn : news = [] := by
      rcases Classical.em (news = []) with h0 | h0
      · exact h0
      · obtain ⟨b, off, h, _⟩ := hr h0
        cases h
    have hm : m = 0 := by
      subst hn
      rcases Nat.eq_zero_or_pos m with h0 | h0
      · exact h0
      · have := Nat.mul_pos h0 hsz
        simp at hl
        omega
    subst hm
    subst hn
    exact ⟨v, w, run_app_nil w base t ty e i size ht hi v n xs hown c, by simpa using hown, World.grownBy.refl w _, .inl rfl⟩
  · have hcells : ∀ j u, news[j]? = some u → w.cell? (ad.add j) = some u := by
      intro j u hu
      have hne : news ≠ [] := by rintro rfl; simp at hu
      obtain ⟨ad', h, hc⟩ := hr.news hne
      injection h with h
      subst h
      exact hc j u hu
    obtain ⟨v', w', hrun, h2, h3, _, h5⟩ := run_append_own_at (P := P) w base t ty e i z size bytes ht hi hz hsize hby hzs hsz v n xs hown ad m c news hl hcells h1 h63 hbytes hbase
    exact ⟨v', w', hrun, h2, h3, h5⟩
theorem wp_app {o : Oper} {a : Act} {K : Act → World → Prop} {Q : Exit → Act → World → Prop} (s x : Operand) (t : TypeId)
    (ho : o.op = .call { callee := .builtin .append, args := #[s, x], argTypes := #[t, t] })
    (base : Nat) (e : TypeId) (i : TypeInfo) (z : Value) (size bytes : Nat) (ht : P.underlying t = some (.slice e)) (hi : P.info? e = some i) (hz : i.zero = some z)
    (hsize : i.size = size) (hby : i.bytes = bytes) (hzs : z.cells.size = size) (hsz : 0 < size)
    (v : Value) (n : Nat) (xs : List Value) (hs : a.eval s = v) (hown : w.ownsRow base e size v n xs)
    (lo hi' : Nat) (A : Option Addr) (m c : Nat) (news : List Value) (hx : a.eval x = .slice A m c) (hl : news.length = m * size) (hr : SV w lo hi' A news) (h1 : ∀ u ∈ news, u.oneCell' = true)
    (h63 : n + m ≤ maxLen) (hbytes : (n + m) * bytes ≤ 140737488355328) (hbase : base ≤ w.heap.size)
    (h : ∀ v' w', w'.ownsRow base e size v' (n + m) (xs ++ news) → w.grownBy w' v.ownBlock → (v'.ownBlock = v.ownBlock ∨ v'.ownBlock = some w.heap.size) → K (a.put o.dst v') w') : o.wp P a w K Q := by
  obtain ⟨v', w', hrun, h2, h3, h4⟩ := run_app (P := P) w base t o.type e i z size bytes ht hi hz hsize hby hzs hsz v n xs hown lo hi' A m c news hl hr h1 h63 hbytes hbase
  unfold Oper.wp execOp
  simp only [ho, resolve, invoke, builtin, Sem.run_bind, Sem.run_pure, Result.andThen_ok, List.map_toArray, List.map_cons, List.map_nil, hs, hx, hrun]
  exact h v' w' h2 h3 h4
theorem wpList_app {ops : Array Oper} {rest : List Oper} {o : Oper} {a : Act} {Q : Exit → Act → World → Prop} (hgd : o.guard = none) (s x : Operand) (t : TypeId)
    (ho : o.op = .call { callee := .builtin .append, args := #[s, x], argTypes := #[t, t] })
    (base : Nat) (e : TypeId) (i : TypeInfo) (z : Value) (bytes : Nat) (ht : P.underlying t = some (.slice e)) (hi : P.info? e = some i) (hz : i.zero = some z)
    (hsize : i.size = 1) (hby : i.bytes = bytes) (hzs : z.cells.size = 1)
    (v : Value) (xs : List Value) (hs : a.eval s = v) (hown : Own w base e v xs)
    (lo hi' : Nat) (A : Option Addr) (m c : Nat) (news : List Value) (hx : a.eval x = .slice A m c) (hl : news.length = m) (hr : SV w lo hi' A news) (h1 : ∀ u ∈ news, u.oneCell' = true)
    (h63 : xs.length + m ≤ maxLen) (hbytes : (xs.length + m) * bytes ≤ 140737488355328) (hbase : base ≤ w.heap.size)
    (h : ∀ v' w', Own w' base e v' (xs ++ news) → Below base w w' → w.heap.size ≤ w'.heap.size → wpList P ops Q rest (a.put o.dst v') w') : wpList P ops Q (o :: rest) a w :=
  wpList_plain hgd fun _ hK => wp_app w s x t ho base e i z 1 bytes ht hi hz hsize hby hzs (by omega) v xs.length xs hs hown lo hi' A m c news hx (by omega) hr h1 h63 hbytes hbase fun v' w' h2 h3 _ =>
    hK _ _ (h v' w' (by unfold Own; rw [List.length_append, hl]; exact h2)
      ((Below.refl _ _).grown h3 hbase (fun k hk => (World.ownsRow.lt hown k hk).1)) h3.size)
end
theorem sv_one (w : World) (u : Value) (t : TypeId) : SV (w.alloc (.cells #[u] t)) w.heap.size (w.heap.size + 1) (some ⟨w.heap.size, 0, none⟩) [u] := fun _ =>
  ⟨w.heap.size, 0, rfl, Nat.le_refl _, Nat.lt_succ_self _, fun j v hv => by
    have := cell_one_new w u t j v hv
    rw [Addr.add_lit] at this
    exact this⟩
theorem Own.alloc {w : World} {base : Nat} {e : TypeId} {v : Value} {xs : List Value} (h : Own w base e v xs) (o : Obj) : Own (w.alloc o) base e v xs := World.ownsRow.alloc h o
structure ElT (P : Program) (t e : TypeId) (z : Value) (bytes : Nat) : Prop where
  und : P.underlying t = some (.slice e)
  info : ∃ i, P.info? e = some i ∧ i.zero = some z ∧ i.size = 1 ∧ i.bytes = bytes
  zc : z.cells.size = 1
section
variable {P : Program} {w : World} {ops : Array Oper} {rest : List Oper} {o : Oper} {a : Act} {Q : Exit → Act → World → Prop} {t e : TypeId} {z : Value} {bytes base : Nat}
theorem wp_appN (E : ElT P t e z bytes) (hgd : o.guard = none) (s x : Operand) (ho : o.op = .call { callee := .builtin .append, args := #[s, x], argTypes := #[t, t] })
    {v : Value} {xs : List Value} (hs : a.eval s = v) (hown : Own w base e v xs) {lo hi : Nat} {A : Option Addr} {m c : Nat} {news : List Value} (hx : a.eval x = .slice A m c) (hl : news.length = m) (hr : SV w lo hi A news)
    (h1 : ∀ u ∈ news, u.oneCell' = true) (hb : (xs.length + m) * (bytes + 1) ≤ 140737488355328) (hbase : base ≤ w.heap.size)
    (h : ∀ v' w', Own w' base e v' (xs ++ news) → Below base w w' → w.heap.size ≤ w'.heap.size → wpList P ops Q rest (a.put o.dst v') w') : wpList P ops Q (o :: rest) a w := by
  obtain ⟨i, hi, hz, hsz, hby⟩ := E.info
  rw [Nat.mul_add, Nat.mul_one] at hb
  exact wpList_app w hgd s x t ho base e i z bytes E.und hi hz hsz hby E.zc v xs hs hown lo _ A m c news hx hl hr h1 (by unfold maxLen; omega) (by omega) hbase h
theorem zco (E : ElT P t e z bytes) (hgd : o.guard = none) (s x : Operand) (ho : o.op = .call { callee := .builtin .append, args := #[s, x], argTypes := #[t, t] })
    {v : Value} {xs : List Value} {u : Value} {te : TypeId} (hs : a.eval s = v) (hown : Own w base e v xs) (hx : a.eval x = .slice (some ⟨w.heap.size, 0, none⟩) 1 1)
    (h1 : u.oneCell' = true) (hb : (xs.length + 1) * (bytes + 1) ≤ 140737488355328) (hbase : base ≤ w.heap.size)
    (h : ∀ v' w', Own w' base e v' (xs ++ [u]) → Below base w w' → w.heap.size ≤ w'.heap.size → wpList P ops Q rest (a.put o.dst v') w') : wpList P ops Q (o :: rest) a (w.alloc (.cells #[u] te)) := by
  refine wp_appN E hgd s x ho hs (hown.alloc _) hx rfl (sv_one w u te) (by intro y hy; simp at hy; subst hy; exact h1) hb (by simp; omega) fun v' w' g1 g2 g3 => h v' w' g1 ?_ ?_
  · exact ((Below.refl base w).alloc hbase _).trans g2
  · simp at g3; omega
theorem wp_make {k : IntKind} (E : ElT P t e (.int k 0) bytes) (hg : o.guard = none) (l c : Operand) (hop : o.op = Op.makeSlice t l c) {kl kc : IntKind} {L C : Int} (n : Nat)
    (hl : a.eval l = .int kl L) (hc : a.eval c = .int kc C) (hL : L = (n : Int)) (hC : C = (n : Int)) (hb : n * (bytes + 1) ≤ 140737488355328)
    (hK : ∀ g w', Hid (g = w.heap.size) → Row w' g e (cel k (List.replicate n 0)) → Below g w w' → Hid (w'.heap.size = g + 1) → wpList P ops Q rest (a.put o.dst (.slice (some ⟨g, 0, none⟩) n n)) w') :
    wpList P ops Q (o :: rest) a w := by
  obtain ⟨i, hi, hz, hsz, hby⟩ := E.info
  rw [Nat.mul_add, Nat.mul_one] at hb
  exact wpList_make_row w hg l c t hop e i k E.und hi hz hsz kl kc L C n hl hc hL hC (by rw [hby, Nat.mul_comm]; omega) (by unfold maxLen; omega) (fun w' g1 g2 g3 => hK _ w' rfl g1 g2 g3)
theorem wp_make0 (E : ElT P t e z bytes) (hg : o.guard = none) (l c : Operand) (hop : o.op = Op.makeSlice t l c) {kl kc : IntKind} {C : Int} (n : Nat)
    (hl : a.eval l = .int kl 0) (hc : a.eval c = .int kc C) (hC : C = (n : Int)) (hb : n * (bytes + 1) ≤ 140737488355328) (hbase : base ≤ w.heap.size)
    (hK : ∀ v w', Own w' base e v [] → Below w.heap.size w w' → w.heap.size ≤ w'.heap.size → wpList P ops Q rest (a.put o.dst v) w') :
    wpList P ops Q (o :: rest) a w := by
  obtain ⟨i, hi, hz, hsz, hby⟩ := E.info
  rw [Nat.mul_add, Nat.mul_one] at hb
  exact wpList_make_own w hg l c t hop base e i z 1 E.und hi hz hsz kl kc C n hl hc hC (by rw [hby, Nat.mul_comm]; omega) (by unfold maxLen; omega) hbase
    fun w' g1 g2 => hK _ w' g1 ((Below.refl _ _).grown g2 (Nat.le_refl _) (by simp)) g2.size
end
theorem isL_new (k : IntKind) (w : World) (t : TypeId) (l : List Nat) (h : l.length ≤ maxLen) :
    IsL k (w.alloc (.cells (cel k l).toArray t)) w.heap.size (w.heap.size + 1) (.slice (some ⟨w.heap.size, 0, none⟩) l.length l.length) l :=
  ⟨_, _, rfl, Nat.le_refl _, h, Row.sv (heap_alloc_new w _)⟩
def Dr (w w' : World) : Prop := ∃ n, w' = w.drewN n
theorem Dr.refl (w : World) : Dr w w := ⟨0, rfl⟩
theorem Dr.drewN {w w' : World} (h : Dr w w') (n : Nat) : Dr w (w'.drewN n) := by
  obtain ⟨m, rfl⟩ := h
  exact ⟨m + n, World.drewN_drewN w m n⟩
theorem Dr.drew {w w' : World} (h : Dr w w') : Dr w w'.drew := h.drewN 1
theorem Dr.below {w w' : World} (h : Dr w w') (B : Nat) : Below B w w' := by
  obtain ⟨m, rfl⟩ := h
  exact below_drewN (Below.refl _ _) m
theorem Dr.size {w w' : World} (h : Dr w w') : w'.heap.size = w.heap.size := by
  obtain ⟨m, rfl⟩ := h
  rfl
structure Only (g : Nat) (w w' : World) : Prop where
  os : w'.os = w.os
  tape : w'.tape = w.tape
  output : w'.output = w.output
  size : w'.heap.size = w.heap.size
  block : ∀ k, k ≠ g → w'.heap[k]? = w.heap[k]?
theorem Only.refl (g : Nat) (w : World) : Only g w w := ⟨rfl, rfl, rfl, rfl, fun _ _ => rfl⟩
theorem Only.trans {g : Nat} {a b c : World} (h : Only g a b) (k : Only g b c) : Only g a c :=
  ⟨k.os.trans h.os, k.tape.trans h.tape, k.output.trans h.output, k.size.trans h.size, fun i hi => (k.block i hi).trans (h.block i hi)⟩
theorem Only.drewN {g : Nat} {a b : World} (h : Only g a b) (n : Nat) : Only g a (b.drewN n) := h.trans ⟨rfl, rfl, rfl, rfl, fun _ _ => rfl⟩
theorem Only.setCell {g : Nat} {a b : World} (h : Only g a b) (i : Nat) (u : Value) : Only g a (b.setCell ⟨g, i, none⟩ u) :=
  h.trans ⟨rfl, rfl, rfl, by simp [World.setCell], fun k hk => Below.heap_setCell _ _ _ _ hk⟩
theorem Only.below {g B : Nat} {a b : World} (h : Only g a b) (hB : B ≤ g) : Below B a b := ⟨h.os, h.tape, h.output, Nat.le_of_eq h.size.symm, fun k hk => h.block k (by omega)⟩
theorem SV.only {w w' : World} {lo hi g : Nat} {A : Option Addr} {xs : List Value} (h : SV w lo hi A xs) (ho : Only g w w') (hg : g < lo ∨ hi ≤ g) : SV w' lo hi A xs :=
  h.keep fun p h1 h2 => World.cell?_of_block (ho.block p.block (by omega))
theorem Row.only {w w' : World} {g g' : Nat} {t : TypeId} {xs : List Value} (h : Row w g t xs) (ho : Only g' w w') (hg : g ≠ g') : Row w' g t xs := (ho.block g hg).trans h
theorem int_eq {k : IntKind} {a b : Int} (h : a = b) : Value.int k a = Value.int k b := by rw [h]
theorem zbb {k : IntKind} {a b : Int} (h : a = b) : Ending.returned (.int k a) = .returned (.int k b) := by rw [h]
theorem zfg {a b : Bool} (h : a = b) : Ending.returned (.bool a) = .returned (.bool b) := by rw [h]
end Go.Proofs.YtjkgdggkgljdoaaDoor
namespace Go.Proofs.YtjkgdggkgljdoaaDoor
def sgn (x y : Nat) : Int := if x < y then -1 else if x = y then 0 else 1
theorem sgn_lt {x y : Nat} (h : x < y) : sgn x y = -1 := by simp [sgn, h]
theorem sgn_eq {x y : Nat} (h : x = y) : sgn x y = 0 := by simp [sgn, h]
theorem sgn_gt {x y : Nat} (h : y < x) : sgn x y = 1 := by
  unfold sgn
  rw [if_neg (by omega), if_neg (by omega)]
theorem zer {x y : Nat} (h : (lim x).length < (lim y).length) : x < y := by
  rcases Nat.lt_or_ge x y with h1 | h1
  · exact h1
  · have := zas h1; omega
theorem val_lt_at {a b : List Nat} {k : Nat} (ha : Lo a) (_hb : Lo b) (hl : a.length = b.length) (hk : k < a.length) (hd : a.drop (k + 1) = b.drop (k + 1)) (h : a.getD k 0 < b.getD k 0) : val a < val b := by
  rw [zdk a k (by omega), zdk b k (by omega), zfj hk, zfj (l := b) (k := k) (by omega), hd]
  have h1 := zea (zdf ha k)
  rw [List.length_take, Nat.min_eq_left (by omega)] at h1
  have h2 : a.getD k 0 + 1000000000 * val (b.drop (k + 1)) + 1 ≤ b.getD k 0 + 1000000000 * val (b.drop (k + 1)) := by omega
  have h3 := Nat.mul_le_mul_left (pw k) h2
  rw [Nat.mul_add (pw k) _ 1, Nat.mul_one] at h3
  omega
theorem drop_step {a b : List Nat} {k : Nat} (hl : a.length = b.length) (hk : k < a.length) (hd : a.drop (k + 1) = b.drop (k + 1)) (h : a.getD k 0 = b.getD k 0) : a.drop k = b.drop k := by
  rw [List.drop_eq_getElem_cons hk, List.drop_eq_getElem_cons (l := b) (i := k) (by omega), hd]
  rw [List.getD_eq_getElem?_getD, List.getD_eq_getElem?_getD, List.getElem?_eq_getElem hk, List.getElem?_eq_getElem (l := b) (i := k) (by omega)] at h
  simp only [Option.getD_some] at h
  rw [h]
theorem take_set_succ {l : List Nat} {k x : Nat} (h : k < l.length) : (l.set k x).take (k + 1) = l.take k ++ [x] := by
  rw [List.take_succ_eq_append_getElem (by simpa using h)]
  rw [List.take_set_of_le (Nat.le_refl k)]
  simp
theorem zdp {l : List Nat} {k x : Nat} (h : k < l.length) : val ((l.set k x).take (k + 1)) = val (l.take k) + pw k * x := by
  rw [take_set_succ h, zbx, List.length_take, Nat.min_eq_left (Nat.le_of_lt h)]
  simp [val]
theorem val_take_succ' (l : List Nat) (k : Nat) : val (l.take (k + 1)) = val (l.take k) + pw k * l.getD k 0 := by
  by_cases h : k < l.length
  · exact val_take_succ h
  · rw [List.take_of_length_le (by omega), List.take_of_length_le (by omega), List.getD_eq_getElem?_getD, List.getElem?_eq_none (by omega)]
    simp
theorem zav {l : List Nat} {k : Nat} (h : l.length ≤ k) : val (l.take k) = val l := by rw [List.take_of_length_le h]
theorem zck {l : List Nat} {k : Nat} (h : l.length ≤ k) : l.getD k 0 = 0 := by rw [List.getD_eq_getElem?_getD, List.getElem?_eq_none h]; rfl
theorem val_nil_take (l : List Nat) : val (l.take 0) = 0 := by simp [val]
theorem sub_rel {a b L : List Nat} {k : Nat} {x y bw bw' r : Int} (hk : k < L.length) (hx : x = (a.getD k 0 : Nat)) (hy : y = (b.getD k 0 : Nat)) (hr : r = x - y - bw + 1000000000 * bw') (hr0 : 0 ≤ r)
    (h : (val (L.take k) : Int) = val (a.take k) - val (b.take k) + bw * pw k) :
    (val ((L.set k r.toNat).take (k + 1)) : Int) = val (a.take (k + 1)) - val (b.take (k + 1)) + bw' * pw (k + 1) := by
  rw [zdp hk, val_take_succ' a, val_take_succ' b, zby]
  have e : ((r.toNat : Nat) : Int) = r := Int.toNat_of_nonneg hr0
  simp only [Int.natCast_add, Int.natCast_mul, e, h, ← hx, ← hy]
  rw [hr]
  grind
theorem sub_end {a b L : List Nat} {n : Nat} {bw : Int} (hL : L.length = n) (ha : a.length = n) (hb : b.length ≤ n) (hLo : Lo L) (hbw : bw = 0 ∨ bw = 1) (hle : val b ≤ val a)
    (h : (val (L.take n) : Int) = val (a.take n) - val (b.take n) + bw * pw n) : val L = val a - val b := by
  rw [zav (by omega), zav (by omega), zav hb] at h
  have h1 := zea hLo
  rw [hL] at h1
  rcases hbw with rfl | rfl <;> omega
theorem val_set {l : List Nat} {k x : Nat} (h : k < l.length) : val (l.set k x) + pw k * l.getD k 0 = val l + pw k * x := by
  have e1 := zdk (l.set k x) (k + 1) (by simp; omega)
  have e2 := zdk l (k + 1) h
  rw [zdp h, List.drop_set_of_lt (by omega)] at e1
  rw [val_take_succ h] at e2
  omega
theorem zce {x y : Int} (hx0 : 0 ≤ x) (hx : x ≤ 999999999) (hy0 : 0 ≤ y) (hy : y ≤ 999999999) : 0 ≤ x * y ∧ x * y ≤ 999999998000000001 := by
  refine ⟨Int.mul_nonneg hx0 hy0, ?_⟩
  have h1 := Int.mul_le_mul hx hy hy0 (by omega : (0 : Int) ≤ 999999999)
  omega
theorem mul_ring {V V0 Vn P Q x y z c t c' r T : Int} (ht : t = x * y + z + c) (hr : r = t - c' * 1000000000) (e2 : Vn + P * Q * z = V + P * Q * r) (h : V + c * (P * Q) = V0 + x * P * T) :
    Vn + c' * (1000000000 * (P * Q)) = V0 + x * P * (T + Q * y) := by
  subst ht
  subst hr
  grind
theorem mul_step {L0 L b : List Nat} {i j : Nat} {x y z c t c' r : Int} (hk : i + j < L.length) (hy : y = (b.getD j 0 : Nat)) (hz : z = (L.getD (i + j) 0 : Nat)) (ht : t = x * y + z + c) (hr : r = t - c' * 1000000000) (hr0 : 0 ≤ r)
    (h : (val L : Int) + c * pw (i + j) = val L0 + x * pw i * val (b.take j)) :
    (val (L.set (i + j) r.toNat) : Int) + c' * pw (i + (j + 1)) = val L0 + x * pw i * val (b.take (j + 1)) := by
  have e := val_set (x := r.toNat) hk
  have e2 : (val (L.set (i + j) r.toNat) : Int) + pw (i + j) * z = val L + pw (i + j) * r := by
    have h3 : ((r.toNat : Nat) : Int) = r := Int.toNat_of_nonneg hr0
    rw [hz]
    have := congrArg (fun n : Nat => (n : Int)) e
    simp only [Int.natCast_add, Int.natCast_mul, h3] at this
    exact this
  rw [val_take_succ' b, ← Nat.add_assoc, zby]
  have e3 : (pw (i + j) : Int) = pw i * pw j := by rw [pw_add]; simp
  rw [e3] at e2 h
  simp only [Int.natCast_add, Int.natCast_mul, ← hy, e3]
  exact mul_ring ht hr e2 h
theorem mul_row {L0 L a b : List Nat} {i m : Nat} {x c : Int} (hm : b.length = m) (hk : i + m < L.length) (hx : x = (a.getD i 0 : Nat)) (hz : L.getD (i + m) 0 = 0) (hc0 : 0 ≤ c)
    (h0 : val L0 = val (a.take i) * val b) (h : (val L : Int) + c * pw (i + m) = val L0 + x * pw i * val (b.take m)) :
    val (L.set (i + m) c.toNat) = val (a.take (i + 1)) * val b := by
  have e := val_set (x := c.toNat) hk
  rw [hz, Nat.mul_zero, Nat.add_zero] at e
  rw [zav (Nat.le_of_eq hm)] at h
  rw [val_take_succ' a]
  have h3 : ((c.toNat : Nat) : Int) = c := Int.toNat_of_nonneg hc0
  have e2 := congrArg (fun n : Nat => (n : Int)) e
  have e4 := congrArg (fun n : Nat => (n : Int)) h0
  simp only [Int.natCast_add, Int.natCast_mul, h3] at e2 e4
  apply Int.ofNat_inj.1
  simp only [Int.natCast_add, Int.natCast_mul, ← hx]
  grind
theorem drop_set {l : List Nat} {k x : Nat} (h : k < l.length) : val ((l.set k x).drop k) = x + 1000000000 * val (l.drop (k + 1)) := by
  rw [zfj (by simpa using h), getD_set_eq' h, List.drop_set_of_lt (by omega)]
where
  getD_set_eq' {l : List Nat} {i x : Nat} (h : i < l.length) : (l.set i x).getD i 0 = x := by simp [List.getD_eq_getElem?_getD, h]
theorem short_bounds {r x b : Int} (hr0 : 0 ≤ r) (hr1 : r ≤ b - 1) (hx0 : 0 ≤ x) (hx1 : x ≤ 999999999) :
    0 ≤ (r * 1000000000 + x) / b ∧ (r * 1000000000 + x) / b ≤ 999999999 ∧ 0 ≤ (r * 1000000000 + x) % b ∧ (r * 1000000000 + x) % b ≤ b - 1 := by
  have hb : 0 < b := by omega
  refine ⟨Int.ediv_nonneg (by omega) (by omega), ?_, Int.emod_nonneg _ (by omega), ?_⟩
  · have := Int.ediv_lt_of_lt_mul (a := r * 1000000000 + x) (b := 1000000000) hb (by omega)
    omega
  · have := Int.emod_lt_of_pos (r * 1000000000 + x) hb
    omega
theorem short_step {a L : List Nat} {k : Nat} {r x b : Int} (hk : k < a.length) (hL : L.length = a.length) (hx : x = (a.getD k 0 : Nat)) (hq : 0 ≤ (r * 1000000000 + x) / b)
    (h : (val (a.drop (k + 1)) : Int) = val (L.drop (k + 1)) * b + r) :
    (val (a.drop k) : Int) = val ((L.set k ((r * 1000000000 + x) / b).toNat).drop k) * b + (r * 1000000000 + x) % b := by
  rw [zfj hk, drop_set (by omega)]
  have e : ((((r * 1000000000 + x) / b).toNat : Nat) : Int) = (r * 1000000000 + x) / b := Int.toNat_of_nonneg hq
  have d := Int.mul_ediv_add_emod (r * 1000000000 + x) b
  simp only [Int.natCast_add, Int.natCast_mul, e, h, ← hx]
  generalize (r * 1000000000 + x) / b = q at *
  generalize (r * 1000000000 + x) % b = m at *
  grind
theorem short_end {a L : List Nat} {r b : Int} (hb : 0 < b) (hr0 : 0 ≤ r) (hr1 : r ≤ b - 1) (h : (val (a.drop 0) : Int) = val (L.drop 0) * b + r) : val L = val a / b.toNat ∧ r.toNat = val a % b.toNat := by
  simp only [List.drop_zero] at h
  obtain ⟨n, rfl⟩ := Int.eq_ofNat_of_zero_le (Int.le_of_lt hb)
  obtain ⟨m, rfl⟩ := Int.eq_ofNat_of_zero_le hr0
  simp only [Int.toNat_natCast]
  have e : val a = val L * n + m := by
    apply Int.ofNat_inj.1
    rw [h]; simp
  have hn : 0 < n := by omega
  have hm : m < n := by omega
  rw [e]
  constructor
  · rw [Nat.mul_comm, Nat.mul_add_div hn, Nat.div_eq_of_lt hm, Nat.add_zero]
  · rw [Nat.mul_comm, Nat.mul_add_mod, Nat.mod_eq_of_lt hm]
theorem times_step {a L : List Nat} {k : Nat} {x y c c' r : Int} (hk : k < L.length) (hy : y = (a.getD k 0 : Nat)) (hr : r = c + y * x - c' * 1000000000) (hr0 : 0 ≤ r)
    (h : (val (L.take k) : Int) + c * pw k = val (a.take k) * x) : (val ((L.set k r.toNat).take (k + 1)) : Int) + c' * pw (k + 1) = val (a.take (k + 1)) * x := by
  rw [zdp hk, val_take_succ' a, zby]
  have e : ((r.toNat : Nat) : Int) = r := Int.toNat_of_nonneg hr0
  simp only [Int.natCast_add, Int.natCast_mul, e, ← hy]
  subst hr
  generalize (val (L.take k) : Int) = V at *
  generalize (val (a.take k) : Int) = W at *
  generalize (pw k : Int) = P at *
  grind
theorem zet {l : List Nat} (h : Lo l) (hl : l = [] ∨ pw (l.length - 1) ≤ val l) : lim (val l) = l := by
  rcases hl with rfl | hl
  · rw [zez, zbd]
  · apply lim_val_of h
    rcases Nat.eq_zero_or_pos l.length with h0 | h0
    · rw [List.eq_nil_of_length_eq_zero h0]; decide
    · intro h1
      rw [List.getLastD_eq_getLast?, List.getLast?_eq_getElem?, List.getElem?_eq_getElem (by omega)] at h1
      have h3 : l.getD (l.length - 1) 0 = 0 := by
        rw [List.getD_eq_getElem?_getD, List.getElem?_eq_getElem (by omega)]
        exact h1
      have h2 := val_take_succ' l (l.length - 1)
      rw [show l.length - 1 + 1 = l.length from by omega, List.take_length, h3, Nat.mul_zero, Nat.add_zero] at h2
      have h4 := zea (zdf h (l.length - 1))
      rw [List.length_take, Nat.min_eq_left (by omega)] at h4
      omega
theorem plus_ring {V A B P x y c c' r : Int} (h : V + c * P = A + B) (hr : r = c + x + y - c' * 1000000000) : V + P * r + c' * (1000000000 * P) = A + P * x + (B + P * y) := by
  subst hr
  grind
theorem zct {a b L : List Nat} {k : Nat} {x y c c' r : Int} (hL : L.length = k) (hx : x = (a.getD k 0 : Nat)) (hy : y = (b.getD k 0 : Nat)) (hr : r = c + x + y - c' * 1000000000) (hr0 : 0 ≤ r)
    (h : (val L : Int) + c * pw k = val (a.take k) + val (b.take k)) : (val (L ++ [r.toNat]) : Int) + c' * pw (k + 1) = val (a.take (k + 1)) + val (b.take (k + 1)) := by
  have e := plus_ring (x := x) (y := y) (c' := c') h hr
  rw [zbx, val_take_succ' a, val_take_succ' b, hL, zfi, zez, Nat.mul_zero, Nat.add_zero, zby]
  have e1 : ((r.toNat : Nat) : Int) = r := Int.toNat_of_nonneg hr0
  simp only [Int.natCast_add, Int.natCast_mul, e1, ← hx, ← hy]
  exact e
theorem zcw {L : List Nat} {r : Nat} (h : Lo L) (hr : r < 1000000000) : Lo (L ++ [r]) := lo_append.2 ⟨h, by intro x hx; simp at hx; omega⟩
theorem zfe {x k : Nat} (h : k < (lim x).length) : pw k ≤ x := lim_len_lt.1 h
theorem minus_ring {V A B P x y bw bw' r : Int} (h : V = A - B + bw * P) (hr : r = x - y - bw + 1000000000 * bw') : V + P * r = A + P * x - (B + P * y) + bw' * (1000000000 * P) := by
  subst hr
  subst h
  grind
theorem minus_step {a b L : List Nat} {k : Nat} {x y bw bw' r : Int} (hL : L.length = k) (hx : x = (a.getD k 0 : Nat)) (hy : y = (b.getD k 0 : Nat)) (hr : r = x - y - bw + 1000000000 * bw') (hr0 : 0 ≤ r)
    (h : (val L : Int) = val (a.take k) - val (b.take k) + bw * pw k) : (val (L ++ [r.toNat]) : Int) = val (a.take (k + 1)) - val (b.take (k + 1)) + bw' * pw (k + 1) := by
  have e := minus_ring (x := x) (y := y) (bw' := bw') h hr
  rw [zbx, val_take_succ' a, val_take_succ' b, hL, zfi, zez, Nat.mul_zero, Nat.add_zero, zby]
  have e1 : ((r.toNat : Nat) : Int) = r := Int.toNat_of_nonneg hr0
  simp only [Int.natCast_add, Int.natCast_mul, e1, ← hx, ← hy]
  exact e
theorem sz_add {x y k : Nat} (hx : (lim x).length ≤ k) (hy : (lim y).length ≤ k) : (lim (x + y)).length ≤ k + 1 := by
  have := lim_len_add x y
  omega
theorem sz_mul {x y k l : Nat} (hx : (lim x).length ≤ k) (hy : (lim y).length ≤ l) : (lim (x * y)).length ≤ k + l := by
  have := lim_len_mul x y
  omega
end Go.Proofs.YtjkgdggkgljdoaaDoor
