/-
  Facts that a tactic of their own proves: short names for proofs that stand many times in these texts.
-/
import Derived.WalkKit
import Derived.WalkSpells
import Derived.WalkLawsBesides
import Derived.BigQuiet
import Derived.Deep.QuietTactic
import Derived.Lib.Hide
import Derived.Maps.AppendAt
import Derived.Deep.AppendLies
namespace Go.Proofs.YtijjjbgnpfjpmaaGreatDoor
open Go.RowKit
set_option linter.unusedVariables false
theorem hd2 {A B : Prop} (a : A) (b : B) : Hid A ∧ Hid B := ⟨a, b⟩
theorem mn {α : Sort _} (e : α) : ∃ x, e = x := ⟨e, rfl⟩
theorem kr {p : Prop} (h : p := by kernel_rfl) : p := h
theorem oh {a p : Prop} (ha : Hid a) (h : a → p := by (intro _; omega)) : p := h ha
theorem oh2 {a b p : Prop} (ha : Hid a) (hb : Hid b) (h : a → b → p := by (intro _ _; omega)) : p := h ha hb
theorem sP {g q : Prop} (k : q) (h : q → g := by (intro hk; (try simp only [Act.put, _root_.List.setIfInBounds_toArray, _root_.List.set_cons_zero, _root_.List.set_cons_succ]); exact hk)) : g := h k
theorem og {p : Prop} (h : p := by omega) : p := h
end Go.Proofs.YtijjjbgnpfjpmaaGreatDoor
namespace Go.Proofs.YtijjjbgnpfjpmaaGreatDoor
def val : List Nat → Nat
  | [] => 0
  | x :: l => x + 1000000000 * val l
def lim (n : Nat) : List Nat := if n = 0 then [] else n % 1000000000 :: lim (n / 1000000000)
termination_by n
decreasing_by omega
def Lo (l : List Nat) : Prop := ∀ x ∈ l, x < 1000000000
def pw (k : Nat) : Nat := 1000000000 ^ k
theorem pw_zero : pw 0 = 1 := rfl
theorem pw_one : pw 1 = 1000000000 := by simp [pw]
theorem zax (k : Nat) : pw (k + 1) = 1000000000 * pw k := by simp [pw, Nat.pow_succ, Nat.mul_comm]
theorem zcy (k : Nat) : 0 < pw k := Nat.pow_pos og
theorem pw_add (a b : Nat) : pw (a + b) = pw a * pw b := by simp [pw, Nat.pow_add]
theorem pw_mono {a b : Nat} (h : a ≤ b) : pw a ≤ pw b := Nat.pow_le_pow_right og h
theorem lim_zero : lim 0 = [] := by rw [lim]; simp
theorem zcr {n : Nat} (h : n ≠ 0) : lim n = n % 1000000000 :: lim (n / 1000000000) := by rw [lim]; simp [h]
theorem zev : val [] = 0 := rfl
theorem val_cons (x : Nat) (l : List Nat) : val (x :: l) = x + 1000000000 * val l := rfl
theorem zbf (a b : List Nat) : val (a ++ b) = val a + pw a.length * val b := by
  induction a with
  | nil => simp [val, pw]
  | cons x a ih =>
    simp only [List.cons_append, val, ih, List.length_cons, zax]
    grind
theorem zas (n : Nat) : val (lim n) = n := by
  induction n using Nat.strongRecOn with
  | _ n ih =>
    by_cases h : n = 0
    · subst h; simp [lim_zero, val]
    · rw [zcr h, val, ih _ og]; omega
theorem lo_nil : Lo [] := by intro x hx; cases hx
theorem lo_cons {x : Nat} {l : List Nat} : Lo (x :: l) ↔ x < 1000000000 ∧ Lo l := by simp [Lo]
theorem lo_append {a b : List Nat} : Lo (a ++ b) ↔ Lo a ∧ Lo b := by
  simp only [Lo, List.mem_append]
  exact ⟨fun h => ⟨fun x hx => h x (.inl hx), fun x hx => h x (.inr hx)⟩, fun h x hx => hx.elim (h.1 x) (h.2 x)⟩
theorem zbk {l : List Nat} (h : Lo l) (k : Nat) : Lo (l.take k) := fun x hx => h x (List.mem_of_mem_take hx)
theorem lo_drop {l : List Nat} (h : Lo l) (k : Nat) : Lo (l.drop k) := fun x hx => h x (List.mem_of_mem_drop hx)
theorem zcj {l : List Nat} (h : Lo l) (k : Nat) : l.getD k 0 < 1000000000 := by
  rw [List.getD_eq_getElem?_getD]
  by_cases hk : k < l.length
  · rw [List.getElem?_eq_getElem hk]; exact h _ (List.getElem_mem hk)
  · rw [List.getElem?_eq_none og]; simp
theorem zat (n : Nat) : Lo (lim n) := by
  induction n using Nat.strongRecOn with
  | _ n ih =>
    by_cases h : n = 0
    · subst h; rw [lim_zero]; exact lo_nil
    · rw [zcr h, lo_cons]; exact ⟨Nat.mod_lt _ og, ih _ og⟩
theorem lim_val_of {l : List Nat} (h : Lo l) (hl : l.getLastD 1 ≠ 0) : lim (val l) = l := by
  induction l with
  | nil => simp [val, lim_zero]
  | cons x l ih =>
    rw [lo_cons] at h
    have hv : val (x :: l) ≠ 0 := by
      intro e
      simp only [val] at e
      have hx : x = 0 := og
      have hz : val l = 0 := og
      cases l with
      | nil => simp [hx] at hl
      | cons y l' =>
        have := ih h.2 (by simpa using hl)
        rw [hz, lim_zero] at this
        cases this
    rw [zcr hv]
    simp only [val]
    have h1 : (x + 1000000000 * val l) % 1000000000 = x := og
    have h2 : (x + 1000000000 * val l) / 1000000000 = val l := og
    rw [h1, h2]
    congr 1
    apply ih h.2
    cases l with
    | nil => simp
    | cons y l' => simpa using hl
theorem last_lim (n : Nat) : (lim n).getLastD 1 ≠ 0 := by
  induction n using Nat.strongRecOn with
  | _ n ih =>
    by_cases h : n = 0
    · subst h; simp [lim_zero]
    · rw [zcr h]
      have := ih (n / 1000000000) og
      by_cases h2 : n / 1000000000 = 0
      · rw [h2, lim_zero]; simp; omega
      · rw [zcr h2] at this ⊢
        simpa using this
theorem zbz {l : List Nat} (h : Lo l) : val l < pw l.length := by
  induction l with
  | nil => simp [val, pw]
  | cons x l ih =>
    rw [lo_cons] at h
    have := ih h.2
    simp only [val, List.length_cons, zax]
    omega
theorem lim_len_le {n k : Nat} : (lim n).length ≤ k ↔ n < pw k := by
  induction k generalizing n with
  | zero =>
    by_cases h : n = 0
    · subst h; simp [lim_zero, pw]
    · rw [zcr h]; simp [pw]; omega
  | succ k ih =>
    by_cases h : n = 0
    · subst h; simp [lim_zero, zcy]
    · rw [zcr h, List.length_cons, zax]
      have := ih (n := n / 1000000000)
      constructor
      · intro hk
        have := this.1 og
        omega
      · intro hk
        have := this.2 og
        omega
theorem lim_len_lt {n k : Nat} : k < (lim n).length ↔ pw k ≤ n := by
  have := lim_len_le (n := n) (k := k)
  omega
theorem zfe (n : Nat) : n < pw (lim n).length := lim_len_le.1 (Nat.le_refl _)
theorem zah {a b : Nat} (h : a ≤ b) : (lim a).length ≤ (lim b).length := lim_len_le.2 (Nat.lt_of_le_of_lt h (zfe b))
theorem lim_len_mul (a b : Nat) : (lim (a * b)).length ≤ (lim a).length + (lim b).length := by
  rw [lim_len_le, pw_add]
  have ha := zfe a
  have hb := zfe b
  have := Nat.mul_le_mul (Nat.succ_le_of_lt ha) (Nat.succ_le_of_lt hb)
  grind
theorem lim_len_add (a b : Nat) : (lim (a + b)).length ≤ max (lim a).length (lim b).length + 1 := by
  rw [lim_len_le, zax]
  have ha := Nat.lt_of_lt_of_le (zfe a) (pw_mono (Nat.le_max_left (lim a).length (lim b).length))
  have hb := Nat.lt_of_lt_of_le (zfe b) (pw_mono (Nat.le_max_right (lim a).length (lim b).length))
  omega
theorem lim_nil_iff {n : Nat} : (lim n).length = 0 ↔ n = 0 := by
  have := lim_len_le (n := n) (k := 0)
  simp only [pw_zero] at this
  omega
theorem lim_inj {a b : Nat} (h : lim a = lim b) : a = b := by rw [← zas a, ← zas b, h]
theorem val_zeros {l : List Nat} (h : ∀ x ∈ l, x = 0) : val l = 0 := by
  induction l with
  | nil => rfl
  | cons x l ih =>
    simp only [val]
    have h1 := h x (by simp)
    have h2 := ih (fun y hy => h y (by simp [hy]))
    omega
theorem val_take_of_zeros {l : List Nat} {m : Nat} (h : ∀ j, m ≤ j → j < l.length → l.getD j 0 = 0) : val (l.take m) = val l := by
  have e : val l = val (l.take m ++ l.drop m) := by rw [List.take_append_drop]
  rw [e, zbf, val_zeros (l := l.drop m), Nat.mul_zero, Nat.add_zero]
  intro x hx
  obtain ⟨j, hj, rfl⟩ := List.getElem_of_mem hx
  rw [List.getElem_drop]
  have := h (m + j) og (by simp at hj; omega)
  rw [List.getD_eq_getElem?_getD, List.getElem?_eq_getElem (by simp at hj; omega)] at this
  simpa using this
theorem trim_to {l : List Nat} {m : Nat} (hl : Lo l) (hm : m ≤ l.length) (h : ∀ j, m ≤ j → j < l.length → l.getD j 0 = 0) (hlast : m = 0 ∨ l.getD (m - 1) 0 ≠ 0) :
    lim (val l) = l.take m := by
  rw [← val_take_of_zeros h]
  apply lim_val_of (zbk hl m)
  rcases hlast with rfl | hne
  · simp
  · by_cases h0 : m = 0
    · subst h0; simp
    · rw [List.getLastD_eq_getLast?, List.getLast?_eq_getElem?, List.length_take, Nat.min_eq_left hm, List.getElem?_take, if_pos og]
      rw [List.getD_eq_getElem?_getD] at hne
      cases hx : l[m - 1]? with
      | none => rw [List.getElem?_eq_none_iff] at hx; omega
      | some x => rw [hx] at hne; simpa using hne
theorem lim_val_len {l : List Nat} (hl : Lo l) : (lim (val l)).length ≤ l.length := lim_len_le.2 (zbz hl)
theorem zcs {n : Nat} (h : n < 1000000000) (h0 : n ≠ 0) : lim n = [n] := by
  rw [zcr h0, Nat.div_eq_of_lt h, lim_zero, Nat.mod_eq_of_lt h]
theorem zdu {l : List Nat} {k : Nat} (h : k < l.length) : val (l.take (k + 1)) = val (l.take k) + pw k * l.getD k 0 := by
  rw [List.take_succ_eq_append_getElem h, zbf, List.length_take, Nat.min_eq_left (Nat.le_of_lt h), List.getD_eq_getElem?_getD, List.getElem?_eq_getElem h]
  simp [val]
theorem zda {l : List Nat} {k : Nat} (h : k < l.length) : val (l.drop k) = l.getD k 0 + 1000000000 * val (l.drop (k + 1)) := by
  rw [List.drop_eq_getElem_cons h, val, List.getD_eq_getElem?_getD, List.getElem?_eq_getElem h]
  rfl
theorem zbm (l : List Nat) (k : Nat) (h : k ≤ l.length) : val l = val (l.take k) + pw k * val (l.drop k) := by
  have e : val l = val (l.take k ++ l.drop k) := by rw [List.take_append_drop]
  rw [e, zbf, List.length_take, Nat.min_eq_left h]
theorem zcx (n k : Nat) : (lim n).getD k 0 = n / pw k % 1000000000 := by
  induction k generalizing n with
  | zero =>
    by_cases h : n = 0
    · subst h; simp [lim_zero, pw]
    · rw [zcr h]; simp [pw]
  | succ k ih =>
    by_cases h : n = 0
    · subst h; simp [lim_zero]
    · rw [zcr h, zax, ← Nat.div_div_eq_div_mul]
      simpa using ih (n / 1000000000)
end Go.Proofs.YtijjjbgnpfjpmaaGreatDoor
namespace Go.Proofs.YtijjjbgnpfjpmaaGreatDoor
open Go.RowKit
def cel (k : IntKind) (l : List Nat) : List Value := l.map fun (n : Nat) => Value.int k (n : Int)
theorem zal (k : IntKind) (l : List Nat) : (cel k l).length = l.length := by simp [cel]
theorem cel_append (k : IntKind) (a b : List Nat) : cel k (a ++ b) = cel k a ++ cel k b := by simp [cel]
theorem cel_getElem? (k : IntKind) (l : List Nat) (j : Nat) : (cel k l)[j]? = l[j]?.map fun (n : Nat) => Value.int k (n : Int) := by simp [cel]
theorem cel_nil_iff {k : IntKind} {l : List Nat} : cel k l = [] ↔ l = [] := by simp [cel]
theorem zap {k : IntKind} {l : List Nat} {j : Nat} (h : j + 1 ≤ l.length) : cel k l ≠ [] := by
  rw [ne_eq, cel_nil_iff]
  rintro rfl
  simp at h
theorem cel_one (k : IntKind) (l : List Nat) : ∀ u ∈ cel k l, u.oneCell' = true := by
  intro u hu
  simp only [cel, List.mem_map] at hu
  obtain ⟨n, _, rfl⟩ := hu
  rfl
theorem zeg (k : IntKind) (l : List Nat) (n : Nat) : cel k (l.take n) = (cel k l).take n := by simp [cel]
theorem cel_drop (k : IntKind) (l : List Nat) (n : Nat) : cel k (l.drop n) = (cel k l).drop n := by simp [cel]
theorem cel_set (k : IntKind) (l : List Nat) (i n : Nat) : cel k (l.set i n) = (cel k l).set i (.int k (n : Int)) := by simp [cel]
theorem zdf {k : IntKind} {l : List Nat} {j : Nat} (h : j < l.length) : (cel k l)[j]? = some (.int k (l.getD j 0 : Nat)) := by
  rw [cel_getElem?, List.getElem?_eq_getElem h, List.getD_eq_getElem?_getD, List.getElem?_eq_getElem h]
  rfl
def SV (w : World) (lo hi : Nat) (A : Option Addr) (xs : List Value) : Prop :=
  xs ≠ [] → ∃ b off, A = some ⟨b, off, none⟩ ∧ lo ≤ b ∧ b < hi ∧ ∀ j v, xs[j]? = some v → w.cell? ⟨b, off + j, none⟩ = some v
section
variable {w w' : World} {lo hi lo' hi' : Nat} {A : Option Addr} {xs : List Value}
theorem SV.nil : SV w lo hi A [] := fun h => absurd rfl h
theorem SV.keep (h : SV w lo hi A xs) (hk : ∀ p : Addr, lo ≤ p.block → p.block < hi → w'.cell? p = w.cell? p) : SV w' lo hi A xs := fun hx => by
  obtain ⟨b, off, hA, h1, h2, hc⟩ := h hx
  exact ⟨b, off, hA, h1, h2, fun j v hv => (hk _ h1 h2).trans (hc j v hv)⟩
theorem SV.wide (h : SV w lo hi A xs) (h1 : lo' ≤ lo) (h2 : hi ≤ hi') : SV w lo' hi' A xs := fun hx => by
  obtain ⟨b, off, hA, g1, g2, hc⟩ := h hx
  exact ⟨b, off, hA, by omega, by omega, hc⟩
theorem SV.below {B : Nat} (h : SV w lo hi A xs) (hb : Below B w w') (hB : hi ≤ B) : SV w' lo hi A xs := h.keep fun p _ h2 => hb.cell og
theorem SV.drewN (h : SV w lo hi A xs) (n : Nat) : SV (w.drewN n) lo hi A xs := h
theorem SV.drew (h : SV w lo hi A xs) : SV w.drew lo hi A xs := h
theorem SV.alloc (h : SV w lo hi A xs) (hB : hi ≤ w.heap.size) (o : Obj) : SV (w.alloc o) lo hi A xs := h.keep fun p _ h2 => World.cell?_alloc_lt w o p og
theorem SV.setCell (h : SV w lo hi A xs) {p : Addr} (hB : p.block < lo ∨ hi ≤ p.block) (u : Value) : SV (w.setCell p u) lo hi A xs :=
  h.keep fun q h1 h2 => World.cell?_setCell_other w p q u (fun e => by subst e; omega)
theorem SV.grown {row : Option Nat} (h : SV w lo hi A xs) (hg : w.grownBy w' row) (hB : hi ≤ w.heap.size) (hr : ∀ g, row = some g → g < lo ∨ hi ≤ g) : SV w' lo hi A xs :=
  h.keep fun p h1 h2 => World.cell?_of_block (hg.block p.block og (fun e => by have := hr _ e.symm; omega))
theorem SV.take (h : SV w lo hi A xs) (n : Nat) : SV w lo hi A (xs.take n) := fun hx => by
  have hne : xs ≠ [] := by rintro rfl; simp at hx
  obtain ⟨b, off, hA, g1, g2, hc⟩ := h hne
  refine ⟨b, off, hA, g1, g2, fun j v hv => hc j v ?_⟩
  rw [List.getElem?_take] at hv
  split at hv
  · exact hv
  · cases hv
theorem SV.cut (h : SV w lo hi A xs) {k cap : Nat} (hc : xs.length ≤ cap) : SV w lo hi (if cap = k then A else A.map (·.add k)) (xs.drop k) := fun hx => by
  have hlen : k < xs.length := by
    rcases Nat.lt_or_ge k xs.length with h1 | h1
    · exact h1
    · exact absurd (List.drop_eq_nil_of_le h1) hx
  have hne : xs ≠ [] := by rintro rfl; simp at hlen
  obtain ⟨b, off, rfl, g1, g2, hcell⟩ := h hne
  rw [if_neg og]
  refine ⟨b, off + k, by simp [Addr.add_lit], g1, g2, fun j v hv => ?_⟩
  rw [Nat.add_assoc]
  exact hcell _ v (by rw [← hv, List.getElem?_drop])
theorem SV.at_ {b off : Nat} (h : SV w lo hi (some ⟨b, off, none⟩) xs) : ∀ j v, xs[j]? = some v → w.cell? ⟨b, off + j, none⟩ = some v := by
  intro j v hv
  obtain ⟨b', off', hA, _, _, hc⟩ := h (by rintro rfl; simp at hv)
  simp only [Option.some.injEq, Addr.mk.injEq, and_true] at hA
  obtain ⟨rfl, rfl⟩ := hA
  exact hc j v hv
theorem SV.news (h : SV w lo hi A xs) (hne : xs ≠ []) : ∃ ad, A = some ad ∧ ∀ j u, xs[j]? = some u → w.cell? (ad.add j) = some u := by
  obtain ⟨b, off, hA, _, _, hc⟩ := h hne
  exact ⟨_, hA, fun j u hu => by rw [Addr.add_lit]; exact hc j u hu⟩
end
def IsL (k : IntKind) (w : World) (lo hi : Nat) (v : Value) (l : List Nat) : Prop :=
  ∃ A c, v = .slice A l.length c ∧ l.length ≤ c ∧ c ≤ maxLen ∧ SV w lo hi A (cel k l)
def IsN (w : World) (lo hi : Nat) (v : Value) (n : Nat) : Prop := IsL .u32 w lo hi v (lim n)
section
variable {k : IntKind} {w w' : World} {lo hi lo' hi' : Nat} {v : Value} {l : List Nat}
theorem IsL.wide (h : IsL k w lo hi v l) (h1 : lo' ≤ lo) (h2 : hi ≤ hi') : IsL k w lo' hi' v l := by
  obtain ⟨A, c, rfl, hc, hm, hs⟩ := h
  exact ⟨A, c, rfl, hc, hm, hs.wide h1 h2⟩
theorem IsL.keep (h : IsL k w lo hi v l) (hk : ∀ p : Addr, lo ≤ p.block → p.block < hi → w'.cell? p = w.cell? p) : IsL k w' lo hi v l := by
  obtain ⟨A, c, rfl, hc, hm, hs⟩ := h
  exact ⟨A, c, rfl, hc, hm, hs.keep hk⟩
theorem IsL.below {B : Nat} (h : IsL k w lo hi v l) (hb : Below B w w') (hB : hi ≤ B) : IsL k w' lo hi v l := h.keep fun p _ h2 => hb.cell og
theorem IsL.drewN (h : IsL k w lo hi v l) (n : Nat) : IsL k (w.drewN n) lo hi v l := h
theorem IsN.drewN {n : Nat} (h : IsN w lo hi v n) (m : Nat) : IsN (w.drewN m) lo hi v n := IsL.drewN h m
theorem IsN.below {n B : Nat} (h : IsN w lo hi v n) (hb : Below B w w') (hB : hi ≤ B) : IsN w' lo hi v n := IsL.below h hb hB
theorem IsN.wide {n : Nat} (h : IsN w lo hi v n) (h1 : lo' ≤ lo) (h2 : hi ≤ hi') : IsN w lo' hi' v n := IsL.wide h h1 h2
theorem IsN.keep {n : Nat} (h : IsN w lo hi v n) (hk : ∀ p : Addr, lo ≤ p.block → p.block < hi → w'.cell? p = w.cell? p) : IsN w' lo hi v n := IsL.keep h hk
theorem IsL.nil : IsL k w lo hi (.slice none 0 0) [] := ⟨none, 0, rfl, Nat.le_refl _, by unfold maxLen; omega, SV.nil⟩
theorem IsN.zero : IsN w lo hi (.slice none 0 0) 0 := by unfold IsN; rw [lim_zero]; exact IsL.nil
theorem IsL.length_le (h : IsL k w lo hi v l) : l.length ≤ maxLen := by
  obtain ⟨A, c, rfl, hc, hm, hs⟩ := h
  omega
end
theorem zbo {k : IntKind} {w : World} {b off j : Nat} {l : List Nat} (hc : ∀ j v, (cel k l)[j]? = some v → w.cell? ⟨b, off + j, none⟩ = some v) (hj : j < l.length) :
    ∃ x : Int, Hid (x = (l.getD j 0 : Nat)) ∧ 0 ≤ x ∧ w.cell? ⟨b, off + j, none⟩ = some (.int k x) :=
  ⟨_, rfl, by omega, hc j _ (zdf hj)⟩
theorem zaw {k : IntKind} {w : World} {b off j : Nat} {l : List Nat} (hl : Lo l) (hc : ∀ j v, (cel k l)[j]? = some v → w.cell? ⟨b, off + j, none⟩ = some v) (hj : j < l.length) :
    ∃ x : Int, Hid (x = (l.getD j 0 : Nat)) ∧ 0 ≤ x ∧ x ≤ 999999999 ∧ w.cell? ⟨b, off + j, none⟩ = some (.int k x) :=
  ⟨_, rfl, by omega, by have := zcj hl j; omega, hc j _ (zdf hj)⟩
def Row (w : World) (g : Nat) (t : TypeId) (xs : List Value) : Prop := w.heap[g]? = some (.cells xs.toArray t (0, 0))
section
variable {w w' : World} {g : Nat} {t : TypeId} {xs : List Value}
theorem Row.lt (h : Row w g t xs) : g < w.heap.size := by
  rcases Nat.lt_or_ge g w.heap.size with hlt | hge
  · exact hlt
  · unfold Row at h; rw [Array.getElem?_eq_none hge] at h; cases h
theorem Row.cell (h : Row w g t xs) (i : Nat) : w.cell? ⟨g, i, none⟩ = xs[i]? := by rw [cell_of_row w g i _ t (0, 0) h]; simp
theorem Row.frozen (h : Row w g t xs) (i : Nat) : w.frozen? ⟨g, i, none⟩ = false := by unfold Row at h; simp [World.frozen?, h]
theorem Row.drewN (h : Row w g t xs) (n : Nat) : Row (w.drewN n) g t xs := h
theorem Row.drew (h : Row w g t xs) : Row w.drew g t xs := h
theorem Row.alloc (h : Row w g t xs) (o : Obj) : Row (w.alloc o) g t xs := (Below.heap_alloc w o g h.lt).trans h
theorem Row.set_ (h : Row w g t xs) (i : Nat) (u : Value) : Row (w.setCell ⟨g, i, none⟩ u) g t (xs.set i u) := by
  unfold Row at h ⊢
  simp [World.setCell, Array.getElem?_modify, h]
theorem Row.far (h : Row w g t xs) {p : Addr} (hp : g ≠ p.block) (u : Value) : Row (w.setCell p u) g t xs := (Below.heap_setCell w p u g hp).trans h
theorem Row.below {B : Nat} (h : Row w g t xs) (hb : Below B w w') (hg : g < B) : Row w' g t xs := (hb.block g hg).trans h
theorem Row.grown {row : Option Nat} (h : Row w g t xs) (hb : w.grownBy w' row) (hg : some g ≠ row) : Row w' g t xs := (hb.block g h.lt hg).trans h
theorem Row.sv (h : Row w g t xs) : SV w g (g + 1) (some ⟨g, 0, none⟩) xs := fun _ => ⟨g, 0, rfl, Nat.le_refl _, Nat.lt_succ_self _, fun j v hv => by rw [Nat.zero_add, h.cell]; exact hv⟩
theorem Row.num {k : IntKind} {l : List Nat} (h : Row w g t (cel k l)) {i : Nat} (hi : i < l.length) : ∃ x : Int, Hid (x = (l.getD i 0 : Nat)) ∧ 0 ≤ x ∧ w.cell? ⟨g, i, none⟩ = some (.int k x) :=
  ⟨_, rfl, by omega, by rw [h.cell, zdf hi]⟩
theorem Row.lo {k : IntKind} {l : List Nat} (h : Row w g t (cel k l)) (hl : Lo l) {i : Nat} (hi : i < l.length) :
    ∃ x : Int, Hid (x = (l.getD i 0 : Nat)) ∧ 0 ≤ x ∧ x ≤ 999999999 ∧ w.cell? ⟨g, i, none⟩ = some (.int k x) :=
  ⟨_, rfl, by omega, by have := zcj hl i; omega, by rw [h.cell, zdf hi]⟩
theorem Row.setNum {k : IntKind} {l : List Nat} (h : Row w g t (cel k l)) (i n : Nat) (x : Int) (hx : x = (n : Int)) : Row (w.setCell ⟨g, i, none⟩ (.int k x)) g t (cel k (l.set i n)) := by
  subst hx; rw [cel_set]; exact h.set_ i _
end
theorem getD_set_eq {l : List Nat} {i x : Nat} (h : i < l.length) : (l.set i x).getD i 0 = x := by simp [List.getD_eq_getElem?_getD, h]
theorem getD_set_ne {l : List Nat} {i j x : Nat} (h : i ≠ j) : (l.set i x).getD j 0 = l.getD j 0 := by simp [List.getD_eq_getElem?_getD, List.getElem?_set_ne h]
theorem zbb {l : List Nat} (h : Lo l) {i x : Nat} (hx : x < 1000000000) : Lo (l.set i x) := fun y hy => by
  rcases List.mem_or_eq_of_mem_set hy with h1 | h1
  · exact h y h1
  · omega
theorem wpList_make_row {P : Program} (w : World) {ops : Array Oper} {rest : List Oper} {o : Oper} {a : Act} {Q : Exit → Act → World → Prop}
    (hg : o.guard = none) (l c : Operand) (t : TypeId) (hop : o.op = Op.makeSlice t l c)
    (e : TypeId) (i : TypeInfo) (k : IntKind) (h1 : P.underlying t = some (.slice e)) (h2 : P.info? e = some i) (h3 : i.zero = some (.int k 0)) (h4 : i.size = 1)
    (kl kc : IntKind) (L C : Int) (n : Nat) (hl : a.eval l = .int kl L) (hc : a.eval c = .int kc C) (hL : L = (n : Int)) (hC : C = (n : Int)) (b2 : i.bytes * n ≤ 281474976710656) (b3 : n ≤ maxLen)
    (hK : ∀ w', Row w' w.heap.size e (cel k (List.replicate n 0)) → Below w.heap.size w w' → w'.heap.size = w.heap.size + 1 → wpList P ops Q rest (a.put o.dst (.slice (some ⟨w.heap.size, 0, none⟩) n n)) w') :
    wpList P ops Q (o :: rest) a w := by
  refine wpList_plain hg fun K hK' => ?_
  have hb' : (i.bytes : Int) * (n : Int) ≤ 281474976710656 := by
    have h : ((i.bytes * n : Nat) : Int) ≤ 281474976710656 := og
    rwa [Int.natCast_mul] at h
  have hr := run_make (P := P) w t e i (.int k 0) h1 h2 h3 kl kc n n og (Int.le_refl _) hb' (by simp only [maxLen] at b3; omega)
  simp only [Int.toNat_natCast] at hr
  subst hL
  subst hC
  unfold Oper.wp
  simp [execOp, hop, hl, hc, hr, Result.andThen]
  refine hK' _ _ (hK _ ?_ ((Below.refl _ _).alloc (Nat.le_refl _) _) (by simp))
  unfold Row
  have hm : (cel k (List.replicate n 0)).toArray = madeCells (Value.int k 0).cells (n * i.size) := by
    apply Array.ext'
    rw [h4, Nat.mul_one]
    show _ = (madeCells #[.int k 0] n).toList
    rw [toList_madeCells_one]
    simp [cel]
  rw [hm]
  exact heap_alloc_new w _
def Own (w : World) (base : Nat) (e : TypeId) (v : Value) (xs : List Value) : Prop := w.ownsRow base e 1 v xs.length xs
theorem Own.sl {w : World} {base : Nat} {e : TypeId} {v : Value} {xs : List Value} (h : Own w base e v xs) :
    ∃ A c, v = .slice A xs.length c ∧ xs.length ≤ c ∧ c ≤ maxLen ∧ SV w base w.heap.size A xs := by
  have h0 := h
  rcases h.2 with ⟨hv, hn⟩ | ⟨g, cap, cur, hv, hb, hh, hn, hcm, hcs, htake⟩
  · have hx : xs = [] := List.eq_nil_of_length_eq_zero hn
    subst hx
    exact ⟨none, 0, by simpa using hv, Nat.le_refl _, by unfold maxLen; omega, SV.nil⟩
  · refine ⟨some ⟨g, 0, none⟩, cap, hv, hn, hcm, fun _ => ⟨g, 0, rfl, hb, (Array.getElem?_eq_some_iff.1 hh).1, fun j u hu => ?_⟩⟩
    subst hv
    have := World.ownsRow.cells h0 (g := g) rfl j u hu
    rw [Addr.add_lit] at this
    exact this
theorem Own.isL {k : IntKind} {w : World} {base : Nat} {e : TypeId} {v : Value} {l : List Nat} (h : Own w base e v (cel k l)) : IsL k w base w.heap.size v l := by
  obtain ⟨A, c, hv, h1, h2, h3⟩ := h.sl
  rw [zal] at hv h1
  exact ⟨A, c, hv, h1, h2, h3⟩
theorem Own.nil (w : World) (base : Nat) (e : TypeId) : Own w base e (.slice none 0 0) [] := World.ownsRow_nil w base e 1
theorem Own.below {w w' : World} {base : Nat} {e : TypeId} {v : Value} {xs : List Value} (h : Own w base e v xs) (hb : Below w.heap.size w w') : Own w' base e v xs :=
  World.ownsRow.kept (row := none) h ⟨hb.os, hb.tape, hb.output, hb.size, fun k hk _ => hb.block k hk⟩ (by cases v.ownBlock <;> simp)
theorem Own.drewN {w : World} {base : Nat} {e : TypeId} {v : Value} {xs : List Value} (h : Own w base e v xs) (n : Nat) : Own (w.drewN n) base e v xs := h.below ⟨rfl, rfl, rfl, Nat.le_refl _, fun _ _ => rfl⟩
section
variable {P : Program} (w : World)
theorem run_app_nil (base : Nat) (t ty e : TypeId) (i : TypeInfo) (size : Nat) (ht : P.underlying t = some (.slice e)) (hi : P.info? e = some i)
    (v : Value) (n : Nat) (xs : List Value) (hown : w.ownsRow base e size v n xs) (c : Nat) : (Builtin.append_ #[t, t] ty #[v, .slice none 0 c]).run P w = .ok v w := by
  rcases hown.2 with ⟨rfl, rfl⟩ | ⟨g, cap, cur, rfl, _, _, hnc, _⟩
  · simp [Builtin.append_, run_underlying ht, sizeOf, typeInfo, hi, Builtin.lenOf, Builtin.firstCells]
  · simp [Builtin.append_, run_underlying ht, sizeOf, typeInfo, hi, Builtin.lenOf, Builtin.firstCells, hnc, storeCells]
theorem run_app (base : Nat) (t ty e : TypeId) (i : TypeInfo) (z : Value) (size bytes : Nat) (ht : P.underlying t = some (.slice e)) (hi : P.info? e = some i) (hz : i.zero = some z)
    (hsize : i.size = size) (hby : i.bytes = bytes) (hzs : z.cells.size = size) (hsz : 0 < size)
    (v : Value) (n : Nat) (xs : List Value) (hown : w.ownsRow base e size v n xs)
    (lo hi' : Nat) (A : Option Addr) (m c : Nat) (news : List Value) (hl : news.length = m * size) (hr : SV w lo hi' A news) (h1 : ∀ u ∈ news, u.oneCell' = true)
    (h63 : n + m ≤ maxLen) (hbytes : (n + m) * bytes ≤ 140737488355328) (hbase : base ≤ w.heap.size) :
    ∃ v' w', (Builtin.append_ #[t, t] ty #[v, .slice A m c]).run P w = .ok v' w' ∧ w'.ownsRow base e size v' (n + m) (xs ++ news) ∧ w.grownBy w' v.ownBlock ∧
      (v'.ownBlock = v.ownBlock ∨ v'.ownBlock = some w.heap.size) := by
  rcases A with _ | ad
  · have hn : news = [] := by
      rcases Classical.em (news = []) with h0 | h0
      · exact h0
      · obtain ⟨b, off, h, _⟩ := hr h0
        cases h
    have hm : m = 0 := by
      subst hn
      rcases Nat.eq_zero_or_pos m with h0 | h0
      · exact h0
      · have := Nat.mul_pos h0 hsz
        simp at hl
        omega
    subst hm
    subst hn
    exact ⟨v, w, run_app_nil w base t ty e i size ht hi v n xs hown c, by simpa using hown, World.grownBy.refl w _, .inl rfl⟩
  · have hcells : ∀ j u, news[j]? = some u → w.cell? (ad.add j) = some u := by
      intro j u hu
      have hne : news ≠ [] := by rintro rfl; simp at hu
      obtain ⟨ad', h, hc⟩ := hr.news hne
      injection h with h
      subst h
      exact hc j u hu
    obtain ⟨v', w', hrun, h2, h3, _, h5⟩ := run_append_own_at (P := P) w base t ty e i z size bytes ht hi hz hsize hby hzs hsz v n xs hown ad m c news hl hcells h1 h63 hbytes hbase
    exact ⟨v', w', hrun, h2, h3, h5⟩
theorem wp_app {o : Oper} {a : Act} {K : Act → World → Prop} {Q : Exit → Act → World → Prop} (s x : Operand) (t : TypeId)
    (ho : o.op = .call { callee := .builtin .append, args := #[s, x], argTypes := #[t, t] })
    (base : Nat) (e : TypeId) (i : TypeInfo) (z : Value) (size bytes : Nat) (ht : P.underlying t = some (.slice e)) (hi : P.info? e = some i) (hz : i.zero = some z)
    (hsize : i.size = size) (hby : i.bytes = bytes) (hzs : z.cells.size = size) (hsz : 0 < size)
    (v : Value) (n : Nat) (xs : List Value) (hs : a.eval s = v) (hown : w.ownsRow base e size v n xs)
    (lo hi' : Nat) (A : Option Addr) (m c : Nat) (news : List Value) (hx : a.eval x = .slice A m c) (hl : news.length = m * size) (hr : SV w lo hi' A news) (h1 : ∀ u ∈ news, u.oneCell' = true)
    (h63 : n + m ≤ maxLen) (hbytes : (n + m) * bytes ≤ 140737488355328) (hbase : base ≤ w.heap.size)
    (h : ∀ v' w', w'.ownsRow base e size v' (n + m) (xs ++ news) → w.grownBy w' v.ownBlock → (v'.ownBlock = v.ownBlock ∨ v'.ownBlock = some w.heap.size) → K (a.put o.dst v') w') : o.wp P a w K Q := by
  obtain ⟨v', w', hrun, h2, h3, h4⟩ := run_app (P := P) w base t o.type e i z size bytes ht hi hz hsize hby hzs hsz v n xs hown lo hi' A m c news hl hr h1 h63 hbytes hbase
  unfold Oper.wp execOp
  simp only [ho, resolve, invoke, builtin, Sem.run_bind, Sem.run_pure, Result.andThen_ok, List.map_toArray, List.map_cons, List.map_nil, hs, hx, hrun]
  exact h v' w' h2 h3 h4
theorem wpList_app {ops : Array Oper} {rest : List Oper} {o : Oper} {a : Act} {Q : Exit → Act → World → Prop} (hgd : o.guard = none) (s x : Operand) (t : TypeId)
    (ho : o.op = .call { callee := .builtin .append, args := #[s, x], argTypes := #[t, t] })
    (base : Nat) (e : TypeId) (i : TypeInfo) (z : Value) (bytes : Nat) (ht : P.underlying t = some (.slice e)) (hi : P.info? e = some i) (hz : i.zero = some z)
    (hsize : i.size = 1) (hby : i.bytes = bytes) (hzs : z.cells.size = 1)
    (v : Value) (xs : List Value) (hs : a.eval s = v) (hown : Own w base e v xs)
    (lo hi' : Nat) (A : Option Addr) (m c : Nat) (news : List Value) (hx : a.eval x = .slice A m c) (hl : news.length = m) (hr : SV w lo hi' A news) (h1 : ∀ u ∈ news, u.oneCell' = true)
    (h63 : xs.length + m ≤ maxLen) (hbytes : (xs.length + m) * bytes ≤ 140737488355328) (hbase : base ≤ w.heap.size)
    (h : ∀ v' w', Own w' base e v' (xs ++ news) → Below base w w' → w.heap.size ≤ w'.heap.size → wpList P ops Q rest (a.put o.dst v') w') : wpList P ops Q (o :: rest) a w :=
  wpList_plain hgd fun _ hK => wp_app w s x t ho base e i z 1 bytes ht hi hz hsize hby hzs og v xs.length xs hs hown lo hi' A m c news hx og hr h1 h63 hbytes hbase fun v' w' h2 h3 _ =>
    hK _ _ (h v' w' (by unfold Own; rw [List.length_append, hl]; exact h2)
      ((Below.refl _ _).grown h3 hbase (fun k hk => (World.ownsRow.lt hown k hk).1)) h3.size)
end
theorem sv_one (w : World) (u : Value) (t : TypeId) : SV (w.alloc (.cells #[u] t)) w.heap.size (w.heap.size + 1) (some ⟨w.heap.size, 0, none⟩) [u] := fun _ =>
  ⟨w.heap.size, 0, rfl, Nat.le_refl _, Nat.lt_succ_self _, fun j v hv => by
    have := cell_one_new w u t j v hv
    rw [Addr.add_lit] at this
    exact this⟩
theorem Own.alloc {w : World} {base : Nat} {e : TypeId} {v : Value} {xs : List Value} (h : Own w base e v xs) (o : Obj) : Own (w.alloc o) base e v xs := World.ownsRow.alloc h o
structure ElT (P : Program) (t e : TypeId) (z : Value) (bytes : Nat) : Prop where
  und : P.underlying t = some (.slice e)
  info : ∃ i, P.info? e = some i ∧ i.zero = some z ∧ i.size = 1 ∧ i.bytes = bytes
  zc : z.cells.size = 1
section
variable {P : Program} {w : World} {ops : Array Oper} {rest : List Oper} {o : Oper} {a : Act} {Q : Exit → Act → World → Prop} {t e : TypeId} {z : Value} {bytes base : Nat}
theorem zex (E : ElT P t e z bytes) (hgd : o.guard = none) (s x : Operand) (ho : o.op = .call { callee := .builtin .append, args := #[s, x], argTypes := #[t, t] })
    {v : Value} {xs : List Value} (hs : a.eval s = v) (hown : Own w base e v xs) {lo hi : Nat} {A : Option Addr} {m c : Nat} {news : List Value} (hx : a.eval x = .slice A m c) (hl : news.length = m) (hr : SV w lo hi A news)
    (h1 : ∀ u ∈ news, u.oneCell' = true) (hb : (xs.length + m) * (bytes + 1) ≤ 140737488355328) (hbase : base ≤ w.heap.size)
    (h : ∀ v' w', Own w' base e v' (xs ++ news) → Below base w w' → w.heap.size ≤ w'.heap.size → wpList P ops Q rest (a.put o.dst v') w') : wpList P ops Q (o :: rest) a w := by
  obtain ⟨i, hi, hz, hsz, hby⟩ := E.info
  rw [Nat.mul_add, Nat.mul_one] at hb
  exact wpList_app w hgd s x t ho base e i z bytes E.und hi hz hsz hby E.zc v xs hs hown lo _ A m c news hx hl hr h1 (by unfold maxLen; omega) og hbase h
theorem zbp (E : ElT P t e z bytes) (hgd : o.guard = none) (s x : Operand) (ho : o.op = .call { callee := .builtin .append, args := #[s, x], argTypes := #[t, t] })
    {v : Value} {xs : List Value} {u : Value} {te : TypeId} (hs : a.eval s = v) (hown : Own w base e v xs) (hx : a.eval x = .slice (some ⟨w.heap.size, 0, none⟩) 1 1)
    (h1 : u.oneCell' = true) (hb : (xs.length + 1) * (bytes + 1) ≤ 140737488355328) (hbase : base ≤ w.heap.size)
    (h : ∀ v' w', Own w' base e v' (xs ++ [u]) → Below base w w' → w.heap.size ≤ w'.heap.size → wpList P ops Q rest (a.put o.dst v') w') : wpList P ops Q (o :: rest) a (w.alloc (.cells #[u] te)) := by
  refine zex E hgd s x ho hs (hown.alloc _) hx rfl (sv_one w u te) (by intro y hy; simp at hy; subst hy; exact h1) hb (by simp; omega) fun v' w' g1 g2 g3 => h v' w' g1 ?_ ?_
  · exact ((Below.refl base w).alloc hbase _).trans g2
  · simp at g3; omega
theorem zdd {k : IntKind} (E : ElT P t e (.int k 0) bytes) (hg : o.guard = none) (l c : Operand) (hop : o.op = Op.makeSlice t l c) {kl kc : IntKind} {L C : Int} (n : Nat)
    (hl : a.eval l = .int kl L) (hc : a.eval c = .int kc C) (hL : L = (n : Int)) (hC : C = (n : Int)) (hb : n * (bytes + 1) ≤ 140737488355328)
    (hK : ∀ g w', Hid (g = w.heap.size) → Row w' g e (cel k (List.replicate n 0)) → Below g w w' → Hid (w'.heap.size = g + 1) → wpList P ops Q rest (a.put o.dst (.slice (some ⟨g, 0, none⟩) n n)) w') :
    wpList P ops Q (o :: rest) a w := by
  obtain ⟨i, hi, hz, hsz, hby⟩ := E.info
  rw [Nat.mul_add, Nat.mul_one] at hb
  exact wpList_make_row w hg l c t hop e i k E.und hi hz hsz kl kc L C n hl hc hL hC (by rw [hby, Nat.mul_comm]; omega) (by unfold maxLen; omega) (fun w' g1 g2 g3 => hK _ w' rfl g1 g2 g3)
end
theorem isL_new (k : IntKind) (w : World) (t : TypeId) (l : List Nat) (h : l.length ≤ maxLen) :
    IsL k (w.alloc (.cells (cel k l).toArray t)) w.heap.size (w.heap.size + 1) (.slice (some ⟨w.heap.size, 0, none⟩) l.length l.length) l :=
  ⟨_, _, rfl, Nat.le_refl _, h, Row.sv (heap_alloc_new w _)⟩
def Dr (w w' : World) : Prop := ∃ n, w' = w.drewN n
theorem Dr.refl (w : World) : Dr w w := ⟨0, rfl⟩
theorem Dr.drewN {w w' : World} (h : Dr w w') (n : Nat) : Dr w (w'.drewN n) := by
  obtain ⟨m, rfl⟩ := h
  exact ⟨m + n, World.drewN_drewN w m n⟩
theorem Dr.drew {w w' : World} (h : Dr w w') : Dr w w'.drew := h.drewN 1
theorem Dr.below {w w' : World} (h : Dr w w') (B : Nat) : Below B w w' := by
  obtain ⟨m, rfl⟩ := h
  exact below_drewN (Below.refl _ _) m
theorem Dr.size {w w' : World} (h : Dr w w') : w'.heap.size = w.heap.size := by
  obtain ⟨m, rfl⟩ := h
  rfl
structure Only (g : Nat) (w w' : World) : Prop where
  os : w'.os = w.os
  tape : w'.tape = w.tape
  output : w'.output = w.output
  size : w'.heap.size = w.heap.size
  block : ∀ k, k ≠ g → w'.heap[k]? = w.heap[k]?
theorem Only.refl (g : Nat) (w : World) : Only g w w := ⟨rfl, rfl, rfl, rfl, fun _ _ => rfl⟩
theorem Only.trans {g : Nat} {a b c : World} (h : Only g a b) (k : Only g b c) : Only g a c :=
  ⟨k.os.trans h.os, k.tape.trans h.tape, k.output.trans h.output, k.size.trans h.size, fun i hi => (k.block i hi).trans (h.block i hi)⟩
theorem Only.drewN {g : Nat} {a b : World} (h : Only g a b) (n : Nat) : Only g a (b.drewN n) := h.trans ⟨rfl, rfl, rfl, rfl, fun _ _ => rfl⟩
theorem Only.setCell {g : Nat} {a b : World} (h : Only g a b) (i : Nat) (u : Value) : Only g a (b.setCell ⟨g, i, none⟩ u) :=
  h.trans ⟨rfl, rfl, rfl, by simp [World.setCell], fun k hk => Below.heap_setCell _ _ _ _ hk⟩
theorem Only.below {g B : Nat} {a b : World} (h : Only g a b) (hB : B ≤ g) : Below B a b := ⟨h.os, h.tape, h.output, Nat.le_of_eq h.size.symm, fun k hk => h.block k og⟩
theorem SV.only {w w' : World} {lo hi g : Nat} {A : Option Addr} {xs : List Value} (h : SV w lo hi A xs) (ho : Only g w w') (hg : g < lo ∨ hi ≤ g) : SV w' lo hi A xs :=
  h.keep fun p h1 h2 => World.cell?_of_block (ho.block p.block og)
theorem Row.only {w w' : World} {g g' : Nat} {t : TypeId} {xs : List Value} (h : Row w g t xs) (ho : Only g' w w') (hg : g ≠ g') : Row w' g t xs := (ho.block g hg).trans h
theorem int_eq {k : IntKind} {a b : Int} (h : a = b) : Value.int k a = Value.int k b := by rw [h]
theorem zae {k : IntKind} {a b : Int} (h : a = b) : Ending.returned (.int k a) = .returned (.int k b) := by rw [h]
theorem zcp {a b : Bool} (h : a = b) : Ending.returned (.bool a) = .returned (.bool b) := by rw [h]
end Go.Proofs.YtijjjbgnpfjpmaaGreatDoor
namespace Go.Proofs.YtijjjbgnpfjpmaaGreatDoor
def sgn (x y : Nat) : Int := if x < y then -1 else if x = y then 0 else 1
theorem zdl {x y : Nat} (h : x < y) : sgn x y = -1 := by simp [sgn, h]
theorem sgn_eq {x y : Nat} (h : x = y) : sgn x y = 0 := by simp [sgn, h]
theorem zfj {x y : Nat} (h : y < x) : sgn x y = 1 := by
  unfold sgn
  rw [if_neg og, if_neg og]
theorem zcn {x y : Nat} (h : (lim x).length < (lim y).length) : x < y := by
  rcases Nat.lt_or_ge x y with h1 | h1
  · exact h1
  · have := zah h1; omega
theorem zfn {a b : List Nat} {k : Nat} (ha : Lo a) (_hb : Lo b) (hl : a.length = b.length) (hk : k < a.length) (hd : a.drop (k + 1) = b.drop (k + 1)) (h : a.getD k 0 < b.getD k 0) : val a < val b := by
  rw [zbm a k og, zbm b k og, zda hk, zda (l := b) (k := k) og, hd]
  have h1 := zbz (zbk ha k)
  rw [List.length_take, Nat.min_eq_left og] at h1
  have h2 : a.getD k 0 + 1000000000 * val (b.drop (k + 1)) + 1 ≤ b.getD k 0 + 1000000000 * val (b.drop (k + 1)) := og
  have h3 := Nat.mul_le_mul_left (pw k) h2
  rw [Nat.mul_add (pw k) _ 1, Nat.mul_one] at h3
  omega
theorem drop_step {a b : List Nat} {k : Nat} (hl : a.length = b.length) (hk : k < a.length) (hd : a.drop (k + 1) = b.drop (k + 1)) (h : a.getD k 0 = b.getD k 0) : a.drop k = b.drop k := by
  rw [List.drop_eq_getElem_cons hk, List.drop_eq_getElem_cons (l := b) (i := k) og, hd]
  rw [List.getD_eq_getElem?_getD, List.getD_eq_getElem?_getD, List.getElem?_eq_getElem hk, List.getElem?_eq_getElem (l := b) (i := k) og] at h
  simp only [Option.getD_some] at h
  rw [h]
theorem zfl {l : List Nat} {k x : Nat} (h : k < l.length) : (l.set k x).take (k + 1) = l.take k ++ [x] := by
  rw [List.take_succ_eq_append_getElem (by simpa using h)]
  rw [List.take_set_of_le (Nat.le_refl k)]
  simp
theorem zch {l : List Nat} {k x : Nat} (h : k < l.length) : val ((l.set k x).take (k + 1)) = val (l.take k) + pw k * x := by
  rw [zfl h, zbf, List.length_take, Nat.min_eq_left (Nat.le_of_lt h)]
  simp [val]
theorem val_take_succ' (l : List Nat) (k : Nat) : val (l.take (k + 1)) = val (l.take k) + pw k * l.getD k 0 := by
  by_cases h : k < l.length
  · exact zdu h
  · rw [List.take_of_length_le og, List.take_of_length_le og, List.getD_eq_getElem?_getD, List.getElem?_eq_none og]
    simp
theorem zai {l : List Nat} {k : Nat} (h : l.length ≤ k) : val (l.take k) = val l := by rw [List.take_of_length_le h]
theorem zbg {l : List Nat} {k : Nat} (h : l.length ≤ k) : l.getD k 0 = 0 := by rw [List.getD_eq_getElem?_getD, List.getElem?_eq_none h]; rfl
theorem val_nil_take (l : List Nat) : val (l.take 0) = 0 := by simp [val]
theorem sub_end {a b L : List Nat} {n : Nat} {bw : Int} (hL : L.length = n) (ha : a.length = n) (hb : b.length ≤ n) (hLo : Lo L) (hbw : bw = 0 ∨ bw = 1) (hle : val b ≤ val a)
    (h : (val (L.take n) : Int) = val (a.take n) - val (b.take n) + bw * pw n) : val L = val a - val b := by
  rw [zai og, zai og, zai hb] at h
  have h1 := zbz hLo
  rw [hL] at h1
  rcases hbw with rfl | rfl <;> omega
theorem val_set {l : List Nat} {k x : Nat} (h : k < l.length) : val (l.set k x) + pw k * l.getD k 0 = val l + pw k * x := by
  have e1 := zbm (l.set k x) (k + 1) (by simp; omega)
  have e2 := zbm l (k + 1) h
  rw [zch h, List.drop_set_of_lt og] at e1
  rw [zdu h] at e2
  omega
theorem zbc {x y : Int} (hx0 : 0 ≤ x) (hx : x ≤ 999999999) (hy0 : 0 ≤ y) (hy : y ≤ 999999999) : 0 ≤ x * y ∧ x * y ≤ 999999998000000001 := by
  refine ⟨Int.mul_nonneg hx0 hy0, ?_⟩
  have h1 := Int.mul_le_mul hx hy hy0 (by omega : (0 : Int) ≤ 999999999)
  omega
theorem mul_ring {V V0 Vn P Q x y z c t c' r T : Int} (ht : t = x * y + z + c) (hr : r = t - c' * 1000000000) (e2 : Vn + P * Q * z = V + P * Q * r) (h : V + c * (P * Q) = V0 + x * P * T) :
    Vn + c' * (1000000000 * (P * Q)) = V0 + x * P * (T + Q * y) := by
  subst ht
  subst hr
  grind
theorem mul_step {L0 L b : List Nat} {i j : Nat} {x y z c t c' r : Int} (hk : i + j < L.length) (hy : y = (b.getD j 0 : Nat)) (hz : z = (L.getD (i + j) 0 : Nat)) (ht : t = x * y + z + c) (hr : r = t - c' * 1000000000) (hr0 : 0 ≤ r)
    (h : (val L : Int) + c * pw (i + j) = val L0 + x * pw i * val (b.take j)) :
    (val (L.set (i + j) r.toNat) : Int) + c' * pw (i + (j + 1)) = val L0 + x * pw i * val (b.take (j + 1)) := by
  have e := val_set (x := r.toNat) hk
  have e2 : (val (L.set (i + j) r.toNat) : Int) + pw (i + j) * z = val L + pw (i + j) * r := by
    have h3 : ((r.toNat : Nat) : Int) = r := Int.toNat_of_nonneg hr0
    rw [hz]
    have := congrArg (fun n : Nat => (n : Int)) e
    simp only [Int.natCast_add, Int.natCast_mul, h3] at this
    exact this
  rw [val_take_succ' b, ← Nat.add_assoc, zax]
  have e3 : (pw (i + j) : Int) = pw i * pw j := by rw [pw_add]; simp
  rw [e3] at e2 h
  simp only [Int.natCast_add, Int.natCast_mul, ← hy, e3]
  exact mul_ring ht hr e2 h
theorem mul_row {L0 L a b : List Nat} {i m : Nat} {x c : Int} (hm : b.length = m) (hk : i + m < L.length) (hx : x = (a.getD i 0 : Nat)) (hz : L.getD (i + m) 0 = 0) (hc0 : 0 ≤ c)
    (h0 : val L0 = val (a.take i) * val b) (h : (val L : Int) + c * pw (i + m) = val L0 + x * pw i * val (b.take m)) :
    val (L.set (i + m) c.toNat) = val (a.take (i + 1)) * val b := by
  have e := val_set (x := c.toNat) hk
  rw [hz, Nat.mul_zero, Nat.add_zero] at e
  rw [zai (Nat.le_of_eq hm)] at h
  rw [val_take_succ' a]
  have h3 : ((c.toNat : Nat) : Int) = c := Int.toNat_of_nonneg hc0
  have e2 := congrArg (fun n : Nat => (n : Int)) e
  have e4 := congrArg (fun n : Nat => (n : Int)) h0
  simp only [Int.natCast_add, Int.natCast_mul, h3] at e2 e4
  apply Int.ofNat_inj.1
  simp only [Int.natCast_add, Int.natCast_mul, ← hx]
  grind
theorem drop_set {l : List Nat} {k x : Nat} (h : k < l.length) : val ((l.set k x).drop k) = x + 1000000000 * val (l.drop (k + 1)) := by
  rw [zda (by simpa using h), getD_set_eq' h, List.drop_set_of_lt og]
where
  getD_set_eq' {l : List Nat} {i x : Nat} (h : i < l.length) : (l.set i x).getD i 0 = x := by simp [List.getD_eq_getElem?_getD, h]
theorem short_bounds {r x b : Int} (hr0 : 0 ≤ r) (hr1 : r ≤ b - 1) (hx0 : 0 ≤ x) (hx1 : x ≤ 999999999) :
    0 ≤ (r * 1000000000 + x) / b ∧ (r * 1000000000 + x) / b ≤ 999999999 ∧ 0 ≤ (r * 1000000000 + x) % b ∧ (r * 1000000000 + x) % b ≤ b - 1 := by
  have hb : 0 < b := og
  refine ⟨Int.ediv_nonneg og og, ?_, Int.emod_nonneg _ og, ?_⟩
  · have := Int.ediv_lt_of_lt_mul (a := r * 1000000000 + x) (b := 1000000000) hb og
    omega
  · have := Int.emod_lt_of_pos (r * 1000000000 + x) hb
    omega
theorem short_step {a L : List Nat} {k : Nat} {r x b : Int} (hk : k < a.length) (hL : L.length = a.length) (hx : x = (a.getD k 0 : Nat)) (hq : 0 ≤ (r * 1000000000 + x) / b)
    (h : (val (a.drop (k + 1)) : Int) = val (L.drop (k + 1)) * b + r) :
    (val (a.drop k) : Int) = val ((L.set k ((r * 1000000000 + x) / b).toNat).drop k) * b + (r * 1000000000 + x) % b := by
  rw [zda hk, drop_set og]
  have e : ((((r * 1000000000 + x) / b).toNat : Nat) : Int) = (r * 1000000000 + x) / b := Int.toNat_of_nonneg hq
  have d := Int.mul_ediv_add_emod (r * 1000000000 + x) b
  simp only [Int.natCast_add, Int.natCast_mul, e, h, ← hx]
  generalize (r * 1000000000 + x) / b = q at *
  generalize (r * 1000000000 + x) % b = m at *
  grind
theorem short_end {a L : List Nat} {r b : Int} (hb : 0 < b) (hr0 : 0 ≤ r) (hr1 : r ≤ b - 1) (h : (val (a.drop 0) : Int) = val (L.drop 0) * b + r) : val L = val a / b.toNat ∧ r.toNat = val a % b.toNat := by
  simp only [List.drop_zero] at h
  obtain ⟨n, rfl⟩ := Int.eq_ofNat_of_zero_le (Int.le_of_lt hb)
  obtain ⟨m, rfl⟩ := Int.eq_ofNat_of_zero_le hr0
  simp only [Int.toNat_natCast]
  have e : val a = val L * n + m := by
    apply Int.ofNat_inj.1
    rw [h]; simp
  have hn : 0 < n := og
  have hm : m < n := og
  rw [e]
  constructor
  · rw [Nat.mul_comm, Nat.mul_add_div hn, Nat.div_eq_of_lt hm, Nat.add_zero]
  · rw [Nat.mul_comm, Nat.mul_add_mod, Nat.mod_eq_of_lt hm]
theorem times_step {a L : List Nat} {k : Nat} {x y c c' r : Int} (hk : k < L.length) (hy : y = (a.getD k 0 : Nat)) (hr : r = c + y * x - c' * 1000000000) (hr0 : 0 ≤ r)
    (h : (val (L.take k) : Int) + c * pw k = val (a.take k) * x) : (val ((L.set k r.toNat).take (k + 1)) : Int) + c' * pw (k + 1) = val (a.take (k + 1)) * x := by
  rw [zch hk, val_take_succ' a, zax]
  have e : ((r.toNat : Nat) : Int) = r := Int.toNat_of_nonneg hr0
  simp only [Int.natCast_add, Int.natCast_mul, e, ← hy]
  subst hr
  generalize (val (L.take k) : Int) = V at *
  generalize (val (a.take k) : Int) = W at *
  generalize (pw k : Int) = P at *
  grind
theorem lim_of_len {l : List Nat} (h : Lo l) (hl : l = [] ∨ pw (l.length - 1) ≤ val l) : lim (val l) = l := by
  rcases hl with rfl | hl
  · rw [zev, lim_zero]
  · apply lim_val_of h
    rcases Nat.eq_zero_or_pos l.length with h0 | h0
    · rw [List.eq_nil_of_length_eq_zero h0]; decide
    · intro h1
      rw [List.getLastD_eq_getLast?, List.getLast?_eq_getElem?, List.getElem?_eq_getElem og] at h1
      have h3 : l.getD (l.length - 1) 0 = 0 := by
        rw [List.getD_eq_getElem?_getD, List.getElem?_eq_getElem og]
        exact h1
      have h2 := val_take_succ' l (l.length - 1)
      rw [show l.length - 1 + 1 = l.length from by omega, List.take_length, h3, Nat.mul_zero, Nat.add_zero] at h2
      have h4 := zbz (zbk h (l.length - 1))
      rw [List.length_take, Nat.min_eq_left og] at h4
      omega
theorem plus_ring {V A B P x y c c' r : Int} (h : V + c * P = A + B) (hr : r = c + x + y - c' * 1000000000) : V + P * r + c' * (1000000000 * P) = A + P * x + (B + P * y) := by
  subst hr
  grind
theorem zfh {a b L : List Nat} {k : Nat} {x y c c' r : Int} (hL : L.length = k) (hx : x = (a.getD k 0 : Nat)) (hy : y = (b.getD k 0 : Nat)) (hr : r = c + x + y - c' * 1000000000) (hr0 : 0 ≤ r)
    (h : (val L : Int) + c * pw k = val (a.take k) + val (b.take k)) : (val (L ++ [r.toNat]) : Int) + c' * pw (k + 1) = val (a.take (k + 1)) + val (b.take (k + 1)) := by
  have e := plus_ring (x := x) (y := y) (c' := c') h hr
  rw [zbf, val_take_succ' a, val_take_succ' b, hL, val_cons, zev, Nat.mul_zero, Nat.add_zero, zax]
  have e1 : ((r.toNat : Nat) : Int) = r := Int.toNat_of_nonneg hr0
  simp only [Int.natCast_add, Int.natCast_mul, e1, ← hx, ← hy]
  exact e
theorem zeb {L : List Nat} {r : Nat} (h : Lo L) (hr : r < 1000000000) : Lo (L ++ [r]) := lo_append.2 ⟨h, by intro x hx; simp at hx; omega⟩
theorem pw_le_of_len {x k : Nat} (h : k < (lim x).length) : pw k ≤ x := lim_len_lt.1 h
theorem minus_ring {V A B P x y bw bw' r : Int} (h : V = A - B + bw * P) (hr : r = x - y - bw + 1000000000 * bw') : V + P * r = A + P * x - (B + P * y) + bw' * (1000000000 * P) := by
  subst hr
  subst h
  grind
theorem zei {a b L : List Nat} {k : Nat} {x y bw bw' r : Int} (hL : L.length = k) (hx : x = (a.getD k 0 : Nat)) (hy : y = (b.getD k 0 : Nat)) (hr : r = x - y - bw + 1000000000 * bw') (hr0 : 0 ≤ r)
    (h : (val L : Int) = val (a.take k) - val (b.take k) + bw * pw k) : (val (L ++ [r.toNat]) : Int) = val (a.take (k + 1)) - val (b.take (k + 1)) + bw' * pw (k + 1) := by
  have e := minus_ring (x := x) (y := y) (bw' := bw') h hr
  rw [zbf, val_take_succ' a, val_take_succ' b, hL, val_cons, zev, Nat.mul_zero, Nat.add_zero, zax]
  have e1 : ((r.toNat : Nat) : Int) = r := Int.toNat_of_nonneg hr0
  simp only [Int.natCast_add, Int.natCast_mul, e1, ← hx, ← hy]
  exact e
theorem sz_add {x y k : Nat} (hx : (lim x).length ≤ k) (hy : (lim y).length ≤ k) : (lim (x + y)).length ≤ k + 1 := by
  have := lim_len_add x y
  omega
theorem sz_mul {x y k l : Nat} (hx : (lim x).length ≤ k) (hy : (lim y).length ≤ l) : (lim (x * y)).length ≤ k + l := by
  have := lim_len_mul x y
  omega
end Go.Proofs.YtijjjbgnpfjpmaaGreatDoor
namespace Go.Proofs.YtijjjbgnpfjpmaaGreatDoor
set_option linter.unusedVariables false
def sg (neg : Bool) (n : Nat) : Int := if neg then -(n : Int) else n
theorem zdk (neg : Bool) (n : Nat) : (sg neg n).natAbs = n := by cases neg <;> simp [sg]
theorem sg_zero (neg : Bool) : sg neg 0 = 0 := by cases neg <;> simp [sg]
theorem sg_neg {neg : Bool} {n : Nat} (h : n ≠ 0) : decide (sg neg n < 0) = neg := by cases neg <;> simp [sg] <;> omega
theorem sg_of (i : Int) : sg (decide (i < 0)) i.natAbs = i := by
  unfold sg
  by_cases h : i < 0 <;> simp [h] <;> omega
theorem sg_mul (a b : Bool) (m n : Nat) : sg (a != b) (m * n) = sg a m * sg b n := by cases a <;> cases b <;> simp [sg, Int.neg_mul, Int.mul_neg]
theorem sg_mulr (a : Bool) (m n : Nat) : sg a (m * n) = sg a m * n := by cases a <;> simp [sg, Int.neg_mul]
theorem sg_add (a : Bool) (m n : Nat) : sg a (m + n) = sg a m + sg a n := by cases a <;> simp [sg] <;> omega
theorem sg_sub {a : Bool} {m n : Nat} (h : n ≤ m) : sg a (m - n) = sg a m + sg (!a) n := by cases a <;> simp [sg] <;> omega
theorem sg_sub' {a : Bool} {m n : Nat} (h : n ≤ m) : sg a (m - n) = sg (!a) n + sg a m := by cases a <;> simp [sg] <;> omega
structure Raw where
  neg : Bool
  num : List Nat
  den : List Nat
deriving DecidableEq
def raw (q : Rat) : Raw := ⟨decide (q.num < 0), lim q.num.natAbs, lim q.den⟩
theorem mk_lowest {neg : Bool} {n d : Nat} (hd : d ≠ 0) (hg : Nat.gcd n d = 1) : (mkRat (sg neg n) d).num = sg neg n ∧ (mkRat (sg neg n) d).den = d := by
  have h := Rat.mk_eq_mkRat (sg neg n) d hd (by rw [zdk]; exact hg)
  rw [← h]
  exact ⟨rfl, rfl⟩
theorem raw_mk {neg : Bool} {n d : Nat} (hd : d ≠ 0) (hg : Nat.gcd n d = 1) (hn : n = 0 → neg = false) : raw (mkRat (sg neg n) d) = ⟨neg, lim n, lim d⟩ := by
  obtain ⟨h1, h2⟩ := mk_lowest (neg := neg) hd hg
  unfold raw
  rw [h1, h2, zdk]
  congr 1
  by_cases h : n = 0
  · rw [hn h, h]; rfl
  · exact sg_neg h
theorem raw_zero : raw 0 = ⟨false, [], [1]⟩ := by
  unfold raw
  rw [show (0 : Rat).num = 0 from rfl, show (0 : Rat).den = 1 from rfl, show (0 : Int).natAbs = 0 from rfl, lim_zero, zcs (n := 1) og og]
  rfl
theorem zea : lim 1 = [1] := zcs og og
theorem rat_mk (q : Rat) : q = mkRat (sg (decide (q.num < 0)) q.num.natAbs) q.den := by rw [sg_of]; exact (Rat.mkRat_self q).symm
theorem mk_scale {i : Int} {d k : Nat} (hk : k ≠ 0) : mkRat (i * k) (d * k) = mkRat i d := Rat.mkRat_mul_right hk
theorem zff {neg : Bool} {n d g : Nat} (hd : d ≠ 0) (h1 : g ∣ n) (h2 : g ∣ d) : mkRat (sg neg n) d = mkRat (sg neg (n / g)) (d / g) := by
  have hg : g ≠ 0 := by rintro rfl; exact hd (Nat.eq_zero_of_zero_dvd h2)
  rw [← mk_scale (i := sg neg (n / g)) (d := d / g) hg, ← sg_mulr, Nat.div_mul_cancel h1, Nat.div_mul_cancel h2]
theorem gcd_div {n d : Nat} (hd : d ≠ 0) : Nat.gcd (n / Nat.gcd n d) (d / Nat.gcd n d) = 1 :=
  Nat.gcd_div_gcd_div_gcd_of_pos_right og
theorem raw_ratio {neg : Bool} {n d : Nat} (hn : n ≠ 0) (hd : d ≠ 0) : raw (mkRat (sg neg n) d) = ⟨neg, lim (n / Nat.gcd n d), lim (d / Nat.gcd n d)⟩ := by
  have hg : 0 < Nat.gcd n d := Nat.gcd_pos_of_pos_right _ og
  rw [zff hd (Nat.gcd_dvd_left n d) (Nat.gcd_dvd_right n d)]
  refine raw_mk ?_ (gcd_div hd) ?_
  · have := Nat.div_pos (Nat.le_of_dvd og (Nat.gcd_dvd_right n d)) hg
    omega
  · intro h
    have := Nat.div_pos (Nat.le_of_dvd og (Nat.gcd_dvd_left n d)) hg
    omega
theorem den_pos (q : Rat) : 0 < q.den := Nat.pos_of_ne_zero q.den_nz
theorem cop (q : Rat) : Nat.gcd q.num.natAbs q.den = 1 := q.reduced
theorem zdi {q : Rat} (h : q ≠ 0) : q.num.natAbs ≠ 0 := fun e => h (Rat.num_eq_zero.1 og)
theorem num_zero_iff {q : Rat} : q.num.natAbs = 0 ↔ q = 0 := ⟨fun h => Rat.num_eq_zero.1 og, fun h => by subst h; rfl⟩
theorem raw_num_nil {q : Rat} : (raw q).num = [] ↔ q = 0 := by
  unfold raw
  rw [← num_zero_iff, ← lim_nil_iff]
  exact List.length_eq_zero_iff.symm
theorem raw_neg {q : Rat} : (raw q).neg = decide (q < 0) := by
  unfold raw
  simp only [decide_eq_decide]
  rw [Rat.lt_iff]
  simp
theorem num_lt (q : Rat) : decide (q.num < 0) = decide (q < 0) := raw_neg (q := q)
def Sz (q : Rat) (k : Nat) : Prop := (lim q.num.natAbs).length ≤ k ∧ (lim q.den).length ≤ k
theorem Sz.le {q : Rat} {k l : Nat} (h : Sz q k) (hl : k ≤ l) : Sz q l := ⟨Nat.le_trans h.1 hl, Nat.le_trans h.2 hl⟩
theorem sz_of_mk {i : Int} {d k : Nat} (hd : d ≠ 0) (h1 : (lim i.natAbs).length ≤ k) (h2 : (lim d).length ≤ k) : Sz (mkRat i d) k := by
  unfold Sz
  rw [Rat.num_mkRat, Rat.den_mkRat, if_neg hd, if_neg hd]
  refine ⟨Nat.le_trans (zah ?_) h1, Nat.le_trans (zah (Nat.div_le_self _ _)) h2⟩
  rw [Int.natAbs_ediv_of_dvd (Int.dvd_natAbs.1 (Int.natCast_dvd_natCast.2 (Nat.gcd_dvd_right d i.natAbs))), Int.natAbs_natCast]
  exact Nat.div_le_self _ _
theorem Sz.zero : Sz 0 1 := ⟨by rw [show (0 : Rat).num.natAbs = 0 from rfl, lim_zero]; decide, by rw [show (0 : Rat).den = 1 from rfl, zea]; decide⟩
theorem Sz.neg {q : Rat} {k : Nat} (h : Sz q k) : Sz (-q) k := by
  unfold Sz at *
  rw [Rat.neg_num, Rat.neg_den, Int.natAbs_neg]
  exact h
theorem Sz.add {p q : Rat} {k l : Nat} (h1 : Sz p k) (h2 : Sz q l) : Sz (p + q) (k + l + 1) := by
  rw [Rat.add_def']
  refine sz_of_mk (Nat.mul_ne_zero p.den_nz q.den_nz) ?_ (Nat.le_trans (sz_mul h1.2 h2.2) og)
  refine Nat.le_trans (zah (Int.natAbs_add_le _ _)) ?_
  rw [Int.natAbs_mul, Int.natAbs_mul, Int.natAbs_natCast, Int.natAbs_natCast]
  refine sz_add (sz_mul h1.1 h2.2) ?_
  rw [Nat.add_comm k l]
  exact sz_mul h2.1 h1.2
theorem cop_left {a b c : Nat} (h : Nat.gcd a (b * c) = 1) : Nat.gcd a b = 1 := Nat.Coprime.coprime_dvd_right (Nat.dvd_mul_right b c) h
theorem plus_gcd {i j : Int} {a b : Nat} (ha : a ≠ 0) (h1 : Nat.gcd i.natAbs a = 1) (h2 : Nat.gcd j.natAbs b = 1) :
    Nat.gcd (i * ((b / Nat.gcd a b : Nat) : Int) + j * ((a / Nat.gcd a b : Nat) : Int)).natAbs (a / Nat.gcd a b) = 1 ∧ Nat.gcd (i * ((b / Nat.gcd a b : Nat) : Int) + j * ((a / Nat.gcd a b : Nat) : Int)).natAbs (b / Nat.gcd a b) = 1 := by
  have hg : 0 < Nat.gcd a b := Nat.gcd_pos_of_pos_left _ og
  have hc : Nat.gcd (a / Nat.gcd a b) (b / Nat.gcd a b) = 1 := Nat.gcd_div_gcd_div_gcd_of_pos_left og
  have ea : a = a / Nat.gcd a b * Nat.gcd a b := (Nat.div_mul_cancel (Nat.gcd_dvd_left a b)).symm
  have eb : b = b / Nat.gcd a b * Nat.gcd a b := (Nat.div_mul_cancel (Nat.gcd_dvd_right a b)).symm
  generalize a / Nat.gcd a b = a' at *
  generalize b / Nat.gcd a b = b' at *
  have h1' : Nat.gcd i.natAbs a' = 1 := by rw [ea] at h1; exact cop_left h1
  have h2' : Nat.gcd j.natAbs b' = 1 := by rw [eb] at h2; exact cop_left h2
  constructor
  · have h : Int.gcd (i * (b' : Int) + j * (a' : Int)) (a' : Int) = 1 := by
      rw [Int.gcd_add_mul_right_left]
      rw [Int.gcd, Int.natAbs_mul, Int.natAbs_natCast, Int.natAbs_natCast]
      exact Nat.Coprime.mul_left h1' (by rw [Nat.coprime_comm]; exact hc)
    simpa [Int.gcd] using h
  · have h : Int.gcd (i * (b' : Int) + j * (a' : Int)) (b' : Int) = 1 := by
      rw [Int.add_comm, Int.gcd_add_mul_right_left]
      rw [Int.gcd, Int.natAbs_mul, Int.natAbs_natCast, Int.natAbs_natCast]
      exact Nat.Coprime.mul_left h2' hc
    simpa [Int.gcd] using h
theorem zeq {g d : Nat} (h : g ∣ d) (hd : d ≠ 0) : g ≠ 0 ∧ d / g ≠ 0 := by
  have hg : g ≠ 0 := by rintro rfl; exact hd (Nat.eq_zero_of_zero_dvd h)
  have := Nat.div_pos (Nat.le_of_dvd og h) og
  exact ⟨hg, by omega⟩
theorem sum_over {i j : Int} {a b : Nat} (ha : a ≠ 0) (hb : b ≠ 0) :
    mkRat i a + mkRat j b = mkRat (i * ((b / Nat.gcd a b : Nat) : Int) + j * ((a / Nat.gcd a b : Nat) : Int)) (a / Nat.gcd a b * b) := by
  have hg := zeq (Nat.gcd_dvd_left a b) ha
  have hn : Nat.gcd a b ≠ 0 := hg.1
  have ea : a = a / Nat.gcd a b * Nat.gcd a b := (Nat.div_mul_cancel (Nat.gcd_dvd_left a b)).symm
  have eb : b = b / Nat.gcd a b * Nat.gcd a b := (Nat.div_mul_cancel (Nat.gcd_dvd_right a b)).symm
  rw [Rat.mkRat_add_mkRat _ _ ha hb, ← mk_scale (i := i * ((b / Nat.gcd a b : Nat) : Int) + j * ((a / Nat.gcd a b : Nat) : Int)) (d := a / Nat.gcd a b * b) hn]
  generalize a / Nat.gcd a b = a' at *
  generalize b / Nat.gcd a b = b' at *
  generalize Nat.gcd a b = g at *
  subst ea
  subst eb
  congr 1
  · push_cast
    grind
  · grind
theorem raw_plus {i j : Int} {a b n : Nat} {neg : Bool} (ha : a ≠ 0) (hb : b ≠ 0) (h1 : Nat.gcd i.natAbs a = 1) (h2 : Nat.gcd j.natAbs b = 1)
    (hn : sg neg n = i * ((b / Nat.gcd a b : Nat) : Int) + j * ((a / Nat.gcd a b : Nat) : Int)) (h0 : n ≠ 0) :
    raw (mkRat i a + mkRat j b) = ⟨neg, lim (n / Nat.gcd n (Nat.gcd a b)), lim (a / Nat.gcd a b * (b / Nat.gcd n (Nat.gcd a b)))⟩ := by
  have hg := zeq (Nat.gcd_dvd_left a b) ha
  have hg2 := zeq (Nat.gcd_dvd_right a b) hb
  obtain ⟨p1, p2⟩ := plus_gcd (i := i) (j := j) (b := b) ha h1 h2
  rw [← hn, zdk] at p1 p2
  rw [sum_over ha hb, ← hn]
  have eb : b = b / Nat.gcd a b * Nat.gcd a b := (Nat.div_mul_cancel (Nat.gcd_dvd_right a b)).symm
  generalize a / Nat.gcd a b = a' at *
  generalize hb' : b / Nat.gcd a b = b' at *
  generalize Nat.gcd a b = g at *
  have hd1 : Nat.gcd n g ∣ n := Nat.gcd_dvd_left n g
  have hd2 : Nat.gcd n g ∣ g := Nat.gcd_dvd_right n g
  have hdb : Nat.gcd n g ∣ b := by rw [eb]; exact Nat.dvd_trans hd2 (Nat.dvd_mul_left _ _)
  have hc := zeq hd1 h0
  have hcb := zeq hdb hb
  rw [zff (g := Nat.gcd n g) (Nat.mul_ne_zero hg.2 hb) hd1 (Nat.dvd_trans hdb (Nat.dvd_mul_left _ _)), Nat.mul_div_assoc _ hdb]
  refine raw_mk (Nat.mul_ne_zero hg.2 hcb.2) ?_ (fun h => absurd h hc.2)
  have e1 : b / Nat.gcd n g = b' * (g / Nat.gcd n g) := by rw [← Nat.mul_div_assoc _ hd2, ← eb]
  have hq : n / Nat.gcd n g ∣ n := ⟨Nat.gcd n g, (Nat.div_mul_cancel hd1).symm⟩
  rw [e1]
  refine Nat.Coprime.mul_right (Nat.Coprime.coprime_dvd_left hq p1) (Nat.Coprime.mul_right (Nat.Coprime.coprime_dvd_left hq p2) ?_)
  exact Nat.gcd_div_gcd_div_gcd_of_pos_left og
theorem plus_zero {i j : Int} {a b : Nat} (ha : a ≠ 0) (hb : b ≠ 0) (hn : i * ((b / Nat.gcd a b : Nat) : Int) + j * ((a / Nat.gcd a b : Nat) : Int) = 0) : mkRat i a + mkRat j b = 0 := by
  rw [sum_over ha hb, hn, Rat.zero_mkRat]
theorem raw_times {p q : Bool} {x y a b : Nat} (ha : a ≠ 0) (hb : b ≠ 0) (hx : x ≠ 0) (hy : y ≠ 0) (h1 : Nat.gcd x a = 1) (h2 : Nat.gcd y b = 1) :
    raw (mkRat (sg p x) a * mkRat (sg q y) b) = ⟨p != q, lim (x / Nat.gcd x b * (y / Nat.gcd y a)), lim (a / Nat.gcd y a * (b / Nat.gcd x b))⟩ := by
  have d1 : Nat.gcd x b ∣ x := Nat.gcd_dvd_left _ _
  have d2 : Nat.gcd x b ∣ b := Nat.gcd_dvd_right _ _
  have d3 : Nat.gcd y a ∣ y := Nat.gcd_dvd_left _ _
  have d4 : Nat.gcd y a ∣ a := Nat.gcd_dvd_right _ _
  have n1 := zeq d1 hx
  have n2 := zeq d2 hb
  have n3 := zeq d3 hy
  have n4 := zeq d4 ha
  rw [Rat.mkRat_mul_mkRat, ← sg_mul, zff (g := Nat.gcd x b * Nat.gcd y a) (Nat.mul_ne_zero ha hb) (Nat.mul_dvd_mul d1 d3) (by rw [Nat.mul_comm (Nat.gcd x b)]; exact Nat.mul_dvd_mul d4 d2)]
  have c1 : Nat.gcd (x / Nat.gcd x b) (b / Nat.gcd x b) = 1 := gcd_div hb
  have c2 : Nat.gcd (y / Nat.gcd y a) (a / Nat.gcd y a) = 1 := gcd_div ha
  have e1 : x * y / (Nat.gcd x b * Nat.gcd y a) = x / Nat.gcd x b * (y / Nat.gcd y a) := Nat.mul_div_mul_comm d1 d3
  have e2 : a * b / (Nat.gcd x b * Nat.gcd y a) = a / Nat.gcd y a * (b / Nat.gcd x b) := by rw [Nat.mul_comm (Nat.gcd x b)]; exact Nat.mul_div_mul_comm d4 d2
  rw [e1, e2]
  have q1 : x / Nat.gcd x b ∣ x := ⟨_, (Nat.div_mul_cancel d1).symm⟩
  have q2 : b / Nat.gcd x b ∣ b := ⟨_, (Nat.div_mul_cancel d2).symm⟩
  have q3 : y / Nat.gcd y a ∣ y := ⟨_, (Nat.div_mul_cancel d3).symm⟩
  have q4 : a / Nat.gcd y a ∣ a := ⟨_, (Nat.div_mul_cancel d4).symm⟩
  refine raw_mk (Nat.mul_ne_zero n4.2 n2.2) ?_ (fun h => absurd h (Nat.mul_ne_zero n1.2 n3.2))
  refine Nat.Coprime.mul_left (Nat.Coprime.mul_right ?_ c1) (Nat.Coprime.mul_right c2 ?_)
  · exact Nat.Coprime.coprime_dvd_left q1 (Nat.Coprime.coprime_dvd_right q4 h1)
  · exact Nat.Coprime.coprime_dvd_left q3 (Nat.Coprime.coprime_dvd_right q2 h2)
theorem raw_neg_q (q : Rat) : raw (-q) = ⟨!(raw q).neg && decide (q ≠ 0), (raw q).num, (raw q).den⟩ := by
  unfold raw
  rw [Rat.neg_num, Rat.neg_den, Int.natAbs_neg]
  congr 1
  by_cases h : q = 0
  · subst h; rfl
  · have := zdi h
    by_cases h2 : q.num < 0
    · simp [h, h2]; omega
    · simp [h, h2]; omega
def chkRaw (chk : List Nat → Int) (r : Raw) : Int :=
  if chk r.num ≠ 0 then chk r.num else if chk r.den ≠ 0 then chk r.den else if r.den = [] then 6 else if (r.num = [] ∧ r.neg = true) ∨ Nat.gcd (val r.num) (val r.den) ≠ 1 then 3 else 0
theorem chkRaw_raw {chk : List Nat → Int} {q : Rat} (h1 : chk (raw q).num = 0) (h2 : chk (raw q).den = 0) : chkRaw chk (raw q) = 0 := by
  unfold chkRaw
  rw [if_neg (by simp [h1]), if_neg (by simp [h2])]
  have hd : (raw q).den ≠ [] := by
    unfold raw
    intro e
    have := lim_nil_iff.1 (List.length_eq_zero_iff.2 e)
    exact q.den_nz this
  rw [if_neg hd, if_neg]
  rintro (⟨h, h'⟩ | h)
  · rw [raw_num_nil] at h
    subst h
    rw [raw_zero] at h'
    cases h'
  · unfold raw at h
    simp only [zas] at h
    exact h (cop q)
end Go.Proofs.YtijjjbgnpfjpmaaGreatDoor
namespace Go.Proofs.YtijjjbgnpfjpmaaGreatDoor
open Go.RowKit
set_option linter.unusedVariables false
def Same (S T : Nat → Prop) (w w' : World) : Prop := ∀ b, S b → T b ∧ ∀ o, w'.cell? ⟨b, o, none⟩ = w.cell? ⟨b, o, none⟩
def Stb {α : Type} (R : World → (Nat → Prop) → Value → α → Prop) : Prop := ∀ (w w' : World) (S T : Nat → Prop) (v : Value) (x : α), R w S v x → Same S T w w' → R w' T v x
theorem Stb.to {α : Type} {R : World → (Nat → Prop) → Value → α → Prop} (hR : Stb R) {w w' : World} {S T : Nat → Prop} {v : Value} {x : α} (h : R w S v x) (hs : Same S T w w') : R w' T v x := hR w w' S T v x h hs
def SVS (w : World) (S : Nat → Prop) (A : Option Addr) (xs : List Value) : Prop :=
  xs ≠ [] → ∃ b off, A = some ⟨b, off, none⟩ ∧ S b ∧ ∀ j v, xs[j]? = some v → w.cell? ⟨b, off + j, none⟩ = some v
theorem SVS.same {w w' : World} {S T : Nat → Prop} {A : Option Addr} {xs : List Value} (h : SVS w S A xs) (hs : Same S T w w') : SVS w' T A xs := fun hx => by
  obtain ⟨b, off, hA, hb, hc⟩ := h hx
  exact ⟨b, off, hA, (hs b hb).1, fun j v hv => ((hs b hb).2 _).trans (hc j v hv)⟩
theorem SVS.nil {w : World} {S : Nat → Prop} {A : Option Addr} : SVS w S A [] := fun h => absurd rfl h
def All2 {α β : Type} (R : α → β → Prop) (a : List α) (b : List β) : Prop := a.length = b.length ∧ ∀ (j : Nat) (x : α) (y : β), a[j]? = some x → b[j]? = some y → R x y
theorem All2.nil {α β : Type} {R : α → β → Prop} : All2 R [] [] := ⟨rfl, fun j x y h => by simp at h⟩
theorem All2.snoc {α β : Type} {R : α → β → Prop} {a : List α} {b : List β} {x : α} {y : β} (h : All2 R a b) (hr : R x y) : All2 R (a ++ [x]) (b ++ [y]) := by
  refine ⟨by simp [h.1], fun j u v hu hv => ?_⟩
  rw [List.getElem?_append] at hu hv
  by_cases hj : j < a.length
  · rw [if_pos hj] at hu
    rw [if_pos (by rw [← h.1]; exact hj)] at hv
    exact h.2 j u v hu hv
  · rw [if_neg hj] at hu
    rw [if_neg (by rw [← h.1]; exact hj)] at hv
    have h0 : j - a.length = 0 := by
      rcases Nat.eq_zero_or_pos (j - a.length) with h1 | h1
      · exact h1
      · rw [List.getElem?_eq_none (by simp; omega)] at hu; cases hu
    rw [h0] at hu
    rw [← h.1, h0] at hv
    simp at hu hv
    rw [← hu, ← hv]
    exact hr
theorem All2.imp {α β : Type} {R Q : α → β → Prop} {a : List α} {b : List β} (h : All2 R a b) (hr : ∀ x y, R x y → Q x y) : All2 Q a b := ⟨h.1, fun j x y hx hy => hr x y (h.2 j x y hx hy)⟩
theorem All2.get {α β : Type} {R : α → β → Prop} {a : List α} {b : List β} (h : All2 R a b) {j : Nat} {y : β} (hy : b[j]? = some y) : ∃ x, a[j]? = some x ∧ R x y := by
  have hj : j < b.length := (List.getElem?_eq_some_iff.1 hy).1
  have hj' : j < a.length := by rw [h.1]; exact hj
  exact ⟨a[j], List.getElem?_eq_getElem hj', h.2 j _ _ (List.getElem?_eq_getElem hj') hy⟩
theorem All2.take {α β : Type} {R : α → β → Prop} {a : List α} {b : List β} (h : All2 R a b) (n : Nat) : All2 R (a.take n) (b.take n) := by
  refine ⟨by simp [h.1], fun j x y hx hy => ?_⟩
  rw [List.getElem?_take] at hx hy
  split at hx
  · rename_i hn
    rw [if_pos hn] at hy
    exact h.2 j x y hx hy
  · cases hx
theorem All2.drop {α β : Type} {R : α → β → Prop} {a : List α} {b : List β} (h : All2 R a b) (n : Nat) : All2 R (a.drop n) (b.drop n) := by
  refine ⟨by simp [h.1], fun j x y hx hy => ?_⟩
  rw [List.getElem?_drop] at hx hy
  exact h.2 _ x y hx hy
theorem All2.set {α β : Type} {R : α → β → Prop} {a : List α} {b : List β} {x : α} {y : β} (h : All2 R a b) (hr : R x y) (n : Nat) : All2 R (a.set n x) (b.set n y) := by
  refine ⟨by simp [h.1], fun j u v hu hv => ?_⟩
  rw [List.getElem?_set] at hu hv
  by_cases hn : n = j
  · rw [if_pos hn] at hu hv
    split at hu
    · split at hv
      · cases hu; cases hv; exact hr
      · cases hv
    · cases hu
  · rw [if_neg hn] at hu hv
    exact h.2 j u v hu hv
def cellsOf (es : List Value) : List Value := es.flatMap fun v => v.cells.toList
theorem cellsOf_append (a b : List Value) : cellsOf (a ++ b) = cellsOf a ++ cellsOf b := by simp [cellsOf]
theorem cellsOf_one (v : Value) : cellsOf [v] = v.cells.toList := by simp [cellsOf]
def Wid (n : Nat) (es : List Value) : Prop := ∀ v ∈ es, v.cells.size = n
theorem Wid.nil {n : Nat} : Wid n [] := by intro v hv; cases hv
theorem Wid.snoc {n : Nat} {es : List Value} {v : Value} (h : Wid n es) (hv : v.cells.size = n) : Wid n (es ++ [v]) := by
  intro u hu
  rcases List.mem_append.1 hu with h1 | h1
  · exact h u h1
  · simp at h1; subst h1; exact hv
theorem Wid.cons {n : Nat} {es : List Value} {v : Value} (h : Wid n (v :: es)) : v.cells.size = n ∧ Wid n es := ⟨h v (by simp), fun u hu => h u (by simp [hu])⟩
theorem Wid.take {n : Nat} {es : List Value} (h : Wid n es) (k : Nat) : Wid n (es.take k) := fun v hv => h v (List.mem_of_mem_take hv)
theorem Wid.drop {n : Nat} {es : List Value} (h : Wid n es) (k : Nat) : Wid n (es.drop k) := fun v hv => h v (List.mem_of_mem_drop hv)
theorem zdb {n : Nat} {es : List Value} (h : Wid n es) : (cellsOf es).length = es.length * n := by
  induction es with
  | nil => simp [cellsOf]
  | cons v es ih =>
    obtain ⟨h1, h2⟩ := h.cons
    have := ih h2
    simp only [cellsOf, List.flatMap_cons, List.length_append, Array.length_toList, h1] at this ⊢
    rw [this, List.length_cons, Nat.add_mul]
    omega
theorem zba {n : Nat} {es : List Value} (h : Wid n es) {j i : Nat} {e u : Value} (he : es[j]? = some e) (hu : e.cells[i]? = some u) : (cellsOf es)[j * n + i]? = some u := by
  induction es generalizing j with
  | nil => simp at he
  | cons v es ih =>
    obtain ⟨h1, h2⟩ := h.cons
    have e1 : cellsOf (v :: es) = v.cells.toList ++ cellsOf es := by simp [cellsOf]
    rw [e1, List.getElem?_append, Array.length_toList, h1]
    cases j with
    | zero =>
      simp at he
      subst he
      have hi : i < v.cells.size := (Array.getElem?_eq_some_iff.1 hu).1
      rw [if_pos og]
      simpa using hu
    | succ j =>
      rw [if_neg (by rw [Nat.add_mul]; omega), show (j + 1) * n + i - n = j * n + i by rw [Nat.add_mul]; omega]
      exact ih h2 (by simpa using he)
def IsS {α : Type} (n : Nat) (R : World → (Nat → Prop) → Value → α → Prop) (w : World) (S : Nat → Prop) (v : Value) (l : List α) : Prop :=
  ∃ A c es, v = .slice A l.length c ∧ l.length ≤ c ∧ c ≤ maxLen ∧ SVS w S A (cellsOf es) ∧ Wid n es ∧ All2 (R w S) es l
theorem IsS.stb {α : Type} {n : Nat} {R : World → (Nat → Prop) → Value → α → Prop} (hR : Stb R) : Stb (IsS n R) := by
  rintro w w' S T v l ⟨A, c, es, hv, h1, h2, h3, h4, h5⟩ hs
  exact ⟨A, c, es, hv, h1, h2, h3.same hs, h4, h5.imp fun x y h => hR.to h hs⟩
theorem IsS.nil {α : Type} {n : Nat} {R : World → (Nat → Prop) → Value → α → Prop} {w : World} {S : Nat → Prop} : IsS n R w S (.slice none 0 0) ([] : List α) :=
  ⟨none, 0, [], rfl, Nat.le_refl _, by unfold maxLen; omega, SVS.nil, Wid.nil, All2.nil⟩
theorem IsS.get {α : Type} {n : Nat} {R : World → (Nat → Prop) → Value → α → Prop} {w : World} {S : Nat → Prop} {A : Option Addr} {m c : Nat} {l : List α} (h : IsS n R w S (.slice A m c) l) (hn : 0 < n) {j : Nat} {x : α} (hj : l[j]? = some x) :
    ∃ b off e, A = some ⟨b, off, none⟩ ∧ S b ∧ R w S e x ∧ e.cells.size = n ∧ ∀ i u, e.cells[i]? = some u → w.cell? ⟨b, off + (j * n + i), none⟩ = some u := by
  obtain ⟨A', c', es, hv, h1, h2, h3, h4, h5⟩ := h
  simp only [Value.slice.injEq] at hv
  obtain ⟨rfl, rfl, rfl⟩ := hv
  obtain ⟨e, he, hr⟩ := h5.get hj
  have hs := h4 e (List.mem_of_getElem? he)
  have hne : cellsOf es ≠ [] := by
    intro h0
    have hl := zdb h4
    rw [h0] at hl
    have : j < es.length := (List.getElem?_eq_some_iff.1 he).1
    have := Nat.mul_pos (by omega : 0 < es.length) hn
    simp at hl
    omega
  obtain ⟨b, off, hA, hb, hc⟩ := h3 hne
  exact ⟨b, off, e, hA, hb, hr, hs, fun i u hu => hc _ u (zba h4 he hu)⟩
def IsK (k : IntKind) (w : World) (S : Nat → Prop) (v : Value) (l : List Nat) : Prop :=
  ∃ A c, v = .slice A l.length c ∧ l.length ≤ c ∧ c ≤ maxLen ∧ SVS w S A (cel k l)
theorem IsK.stb {k : IntKind} : Stb (IsK k) := by
  rintro w w' S T v l ⟨A, c, hv, h1, h2, h3⟩ hs
  exact ⟨A, c, hv, h1, h2, h3.same hs⟩
theorem IsK.isL {k : IntKind} {w : World} {S : Nat → Prop} {v : Value} {l : List Nat} {lo hi : Nat} (h : IsK k w S v l) (hS : ∀ b, S b → lo ≤ b ∧ b < hi) : IsL k w lo hi v l := by
  obtain ⟨A, c, hv, h1, h2, h3⟩ := h
  refine ⟨A, c, hv, h1, h2, fun hx => ?_⟩
  obtain ⟨b, off, hA, hb, hc⟩ := h3 hx
  exact ⟨b, off, hA, (hS b hb).1, (hS b hb).2, hc⟩
theorem IsL.isK {k : IntKind} {w : World} {S : Nat → Prop} {v : Value} {l : List Nat} {lo hi : Nat} (h : IsL k w lo hi v l) (hS : ∀ b, lo ≤ b → b < hi → S b) : IsK k w S v l := by
  obtain ⟨A, c, hv, h1, h2, h3⟩ := h
  refine ⟨A, c, hv, h1, h2, fun hx => ?_⟩
  obtain ⟨b, off, hA, hb1, hb2, hc⟩ := h3 hx
  exact ⟨b, off, hA, hS b hb1 hb2, hc⟩
def IsR (w : World) (S : Nat → Prop) (v : Value) (r : Raw) : Prop :=
  ∃ A c B d, v = .agg #[.bool r.neg, .slice A r.num.length c, .slice B r.den.length d] ∧ IsK .u32 w S (.slice A r.num.length c) r.num ∧ IsK .u32 w S (.slice B r.den.length d) r.den
theorem IsR.stb : Stb IsR := by
  rintro w w' S T v r ⟨A, c, B, d, hv, h1, h2⟩ hs
  exact ⟨A, c, B, d, hv, IsK.stb.to h1 hs, IsK.stb.to h2 hs⟩
def IsQ (w : World) (S : Nat → Prop) (v : Value) (q : Rat) : Prop := IsR w S v (raw q)
theorem IsQ.stb : Stb IsQ := fun _ _ _ _ _ _ h hs => IsR.stb.to h hs
def IsV : World → (Nat → Prop) → Value → List Raw → Prop := IsS 3 IsR
def IsM : World → (Nat → Prop) → Value → List (List Raw) → Prop := IsS 1 IsV
theorem IsV.stb : Stb IsV := IsS.stb IsR.stb
theorem IsM.stb : Stb IsM := IsS.stb IsV.stb
def Old (w : World) : Nat → Prop := fun b => b < w.heap.size
def New (n : Nat) (w : World) : Nat → Prop := fun b => n ≤ b ∧ b < w.heap.size
theorem zby {w w' : World} (h : Below w.heap.size w w') : Same (Old w) (Old w') w w' := fun b hb => ⟨Nat.lt_of_lt_of_le hb h.size, fun o => h.cell (p := ⟨b, o, none⟩) hb⟩
theorem same_new {w w' : World} {n : Nat} (h : Below w.heap.size w w') : Same (New n w) (New n w') w w' := fun b hb => ⟨⟨hb.1, Nat.lt_of_lt_of_le hb.2 h.size⟩, fun o => h.cell (p := ⟨b, o, none⟩) hb.2⟩
theorem zav {w : World} {S T : Nat → Prop} (h : ∀ b, S b → T b) : Same S T w w := fun b hb => ⟨h b hb, fun _ => rfl⟩
theorem zdj {w w' : World} {S : Nat → Prop} {B : Nat} (h : Below B w w') (hS : ∀ b, S b → b < B) : Same S S w w' := fun b hb => ⟨hb, fun o => h.cell (p := ⟨b, o, none⟩) (hS b hb)⟩
theorem new_old {w : World} {n : Nat} : ∀ b, New n w b → Old w b := fun b h => h.2
theorem new_le {w : World} {n m : Nat} (h : m ≤ n) : ∀ b, New n w b → New m w b := fun b hb => ⟨Nat.le_trans h hb.1, hb.2⟩
def OwnS {α : Type} (n : Nat) (t : TypeId) (R : World → (Nat → Prop) → Value → α → Prop) (w : World) (base : Nat) (S : Nat → Prop) (v : Value) (l : List α) : Prop :=
  ∃ es, w.ownsRow base t n v l.length (cellsOf es) ∧ Wid n es ∧ All2 (R w S) es l ∧ ∀ b, S b → b < w.heap.size ∧ some b ≠ v.ownBlock
theorem OwnS.nil {α : Type} {n : Nat} {t : TypeId} {R : World → (Nat → Prop) → Value → α → Prop} {w : World} {base : Nat} {S : Nat → Prop} (hS : ∀ b, S b → b < w.heap.size) : OwnS n t R w base S (.slice none 0 0) ([] : List α) :=
  ⟨[], by simpa [cellsOf] using World.ownsRow_nil w base t n, Wid.nil, All2.nil, fun b hb => ⟨hS b hb, by simp [Value.ownBlock]⟩⟩
theorem OwnS.step {α : Type} {n : Nat} {t : TypeId} {R : World → (Nat → Prop) → Value → α → Prop} (hR : Stb R) {w w' : World} {base : Nat} {S T : Nat → Prop} {v : Value} {l : List α} (h : OwnS n t R w base S v l)
    (hb : Below w.heap.size w w') (hST : ∀ b, S b → T b) (hT : ∀ b, T b → S b ∨ (w.heap.size ≤ b ∧ b < w'.heap.size)) : OwnS n t R w' base T v l := by
  obtain ⟨es, h1, h2, h3, h4⟩ := h
  have hg : w.grownBy w' none := ⟨hb.os, hb.tape, hb.output, hb.size, fun k hk _ => hb.block k hk⟩
  refine ⟨es, h1.kept hg (by cases v.ownBlock <;> simp), h2, h3.imp fun x y h => hR.to h fun b hb' => ⟨hST b hb', fun o => hb.cell (p := ⟨b, o, none⟩) (h4 b hb').1⟩, fun b hb' => ?_⟩
  rcases hT b hb' with h | h
  · have := h4 b h
    exact ⟨Nat.lt_of_lt_of_le this.1 hb.size, this.2⟩
  · refine ⟨h.2, fun e => ?_⟩
    have := (h1.lt b e.symm).2
    omega
theorem OwnS.app {α : Type} {n : Nat} {t : TypeId} {R : World → (Nat → Prop) → Value → α → Prop} (hR : Stb R) {w w' : World} {base : Nat} {S : Nat → Prop} {v v' e : Value} {l : List α} {x : α} {es : List Value}
    (h2 : Wid n es) (h3 : All2 (R w S) es l) (h4 : ∀ b, S b → b < w.heap.size ∧ some b ≠ v.ownBlock) (he : R w S e x) (hn : e.cells.size = n)
    (hown : w'.ownsRow base t n v' (l.length + 1) (cellsOf es ++ e.cells.toList)) (hg : w.grownBy w' v.ownBlock) (ho : v'.ownBlock = v.ownBlock ∨ v'.ownBlock = some w.heap.size) :
    OwnS n t R w' base S v' (l ++ [x]) := by
  have hs : Same S S w w' := fun b hb => ⟨hb, fun o => World.cell?_of_block (hg.block b (h4 b hb).1 (h4 b hb).2)⟩
  refine ⟨es ++ [e], ?_, h2.snoc hn, (h3.imp fun x y h => hR.to h hs).snoc (hR.to he hs), fun b hb => ⟨Nat.lt_of_lt_of_le (h4 b hb).1 hg.size, fun e' => ?_⟩⟩
  · rw [cellsOf_append, cellsOf_one, List.length_append]
    exact hown
  · have := h4 b hb
    rcases ho with h | h
    · rw [h] at e'
      exact this.2 e'
    · rw [h] at e'
      simp at e'
      omega
theorem OwnS.isS {α : Type} {n : Nat} {t : TypeId} {R : World → (Nat → Prop) → Value → α → Prop} (hR : Stb R) {w : World} {base : Nat} {S T : Nat → Prop} {v : Value} {l : List α} (h : OwnS n t R w base S v l)
    (hST : ∀ b, S b → T b) (hT : ∀ b, base ≤ b → b < w.heap.size → T b) : IsS n R w T v l := by
  obtain ⟨es, h1, h2, h3, h4⟩ := h
  have hs : Same S T w w := fun b hb => ⟨hST b hb, fun _ => rfl⟩
  rcases h1.2 with ⟨rfl, hn⟩ | ⟨g, cap, cur, rfl, hb, hh, hnc, hcm, hcs, htake⟩
  · have hl : l = [] := List.eq_nil_of_length_eq_zero hn
    subst hl
    exact IsS.nil
  · refine ⟨some ⟨g, 0, none⟩, cap, es, rfl, hnc, hcm, fun _ => ⟨g, 0, rfl, hT g hb (Array.getElem?_eq_some_iff.1 hh).1, fun j u hu => ?_⟩, h2, h3.imp fun x y h => hR.to h hs⟩
    have := h1.cells (g := g) rfl j u hu
    rw [Addr.add_lit] at this
    exact this
section
variable {P : Program} {w : World} {ops : Array Oper} {rest : List Oper} {o : Oper} {a : Act} {Q : Exit → Act → World → Prop} {t e : TypeId}
structure ElN (P : Program) (t e : TypeId) (n bytes : Nat) : Prop where
  und : P.underlying t = some (.slice e)
  info : ∃ i z, P.info? e = some i ∧ i.zero = some z ∧ i.size = n ∧ i.bytes = bytes ∧ z.cells.size = n
  pos : 0 < n
theorem wp_appS {n bytes : Nat} (E : ElN P t e n bytes) (hgd : o.guard = none) (s x : Operand) (ho : o.op = .call { callee := .builtin .append, args := #[s, x], argTypes := #[t, t] })
    {α : Type} {R : World → (Nat → Prop) → Value → α → Prop} (hR : Stb R) {base : Nat} {S : Nat → Prop} {v ev : Value} {l : List α} {y : α} {te : TypeId} {cs : Array Value}
    (hs : a.eval s = v) (hx : a.eval x = .slice (some ⟨w.heap.size, 0, none⟩) 1 1) (hcs : cs = ev.cells) (hown : OwnS n e R w base S v l) (he : R w S ev y) (hn : ev.cells.size = n)
    (h1 : ∀ u ∈ ev.cells, u.oneCell' = true) (hb : (l.length + 1) * (bytes + 1) ≤ 140737488355328) (hbase : base ≤ w.heap.size)
    (h : ∀ v' w', OwnS n e R w' base S v' (l ++ [y]) → Below base w w' → w.heap.size ≤ w'.heap.size → wpList P ops Q rest (a.put o.dst v') w') : wpList P ops Q (o :: rest) a (w.alloc (.cells cs te)) := by
  subst hcs
  obtain ⟨i, z, hi, hz, hsz, hby, hzc⟩ := E.info
  obtain ⟨es, h1', h2, h3, h4⟩ := hown
  rw [Nat.mul_add, Nat.mul_one] at hb
  have hba := (Below.refl w.heap.size w).alloc (Nat.le_refl _) (.cells ev.cells te)
  have hst : Same S S w (w.alloc (.cells ev.cells te)) := zdj hba (fun b hb => (h4 b hb).1)
  refine wpList_append_own_at _ hgd s x t ho base e i z n bytes E.und hi hz hsz hby hzc E.pos v l.length (cellsOf es) hs (h1'.alloc _) ⟨w.heap.size, 0, none⟩ 1 1 ev.cells.toList hx (by simp [hn]) (fun j u hu => ?_) (by simpa using h1)
    (by unfold maxLen; omega) og (by simp; omega) fun v' w' g1 g2 _ g4 => h v' w' ?_ ?_ ?_
  · rw [Addr.add_lit, Nat.zero_add, cell_of_row _ _ _ _ _ _ (heap_alloc_new w _)]
    simpa using hu
  · refine OwnS.app hR h2 (h3.imp fun x y h => hR.to h hst) (fun b hb => ⟨Nat.lt_of_lt_of_le (h4 b hb).1 hba.size, (h4 b hb).2⟩) (hR.to he hst) hn g1 g2 ?_
    rcases g4 with g | g
    · exact .inl g
    · exact .inr g
  · exact ((Below.refl base w).alloc hbase _).grown g2 (by simp; omega) (fun k hk => (h1'.lt k hk).1)
  · have := g2.size
    simp at this
    omega
end
end Go.Proofs.YtijjjbgnpfjpmaaGreatDoor
