/-
  Plain facts on lists of limbs and the numbers that they are; no program in sight.
-/
import Derived.WalkKit
namespace Go.Proofs.YtbeocfiimminiaaDoor

/-- The number that a list of limbs is, the lowest limb first. -/
def val : List Nat → Nat
  | [] => 0
  | x :: l => x + 1000000000 * val l

/-- The limbs of a number. -/
def lim (n : Nat) : List Nat := if n = 0 then [] else n % 1000000000 :: lim (n / 1000000000)
termination_by n
decreasing_by omega

/-- All limbs are below the base. -/
def Lo (l : List Nat) : Prop := ∀ x ∈ l, x < 1000000000

/-- The base to a power. -/
def pw (k : Nat) : Nat := 1000000000 ^ k

theorem pw_zero : pw 0 = 1 := rfl
theorem pw_one : pw 1 = 1000000000 := by simp [pw]
theorem pw_succ (k : Nat) : pw (k + 1) = 1000000000 * pw k := by simp [pw, Nat.pow_succ, Nat.mul_comm]
theorem pw_pos (k : Nat) : 0 < pw k := Nat.pow_pos (by omega)
theorem pw_add (a b : Nat) : pw (a + b) = pw a * pw b := by simp [pw, Nat.pow_add]
theorem pw_mono {a b : Nat} (h : a ≤ b) : pw a ≤ pw b := Nat.pow_le_pow_right (by omega) h
theorem pw_lt {a b : Nat} (h : a < b) : pw a < pw b := Nat.pow_lt_pow_right (by omega) h

theorem lim_zero : lim 0 = [] := by rw [lim]; simp
theorem lim_pos {n : Nat} (h : n ≠ 0) : lim n = n % 1000000000 :: lim (n / 1000000000) := by rw [lim]; simp [h]

theorem val_nil : val [] = 0 := rfl
theorem val_cons (x : Nat) (l : List Nat) : val (x :: l) = x + 1000000000 * val l := rfl
theorem val_append (a b : List Nat) : val (a ++ b) = val a + pw a.length * val b := by
  induction a with
  | nil => simp [val, pw]
  | cons x a ih =>
    simp only [List.cons_append, val, ih, List.length_cons, pw_succ]
    grind

theorem val_lim (n : Nat) : val (lim n) = n := by
  induction n using Nat.strongRecOn with
  | _ n ih =>
    by_cases h : n = 0
    · subst h; simp [lim_zero, val]
    · rw [lim_pos h, val, ih _ (by omega)]; omega

theorem lo_nil : Lo [] := by intro x hx; cases hx
theorem lo_cons {x : Nat} {l : List Nat} : Lo (x :: l) ↔ x < 1000000000 ∧ Lo l := by simp [Lo]
theorem lo_append {a b : List Nat} : Lo (a ++ b) ↔ Lo a ∧ Lo b := by
  simp only [Lo, List.mem_append]
  exact ⟨fun h => ⟨fun x hx => h x (.inl hx), fun x hx => h x (.inr hx)⟩, fun h x hx => hx.elim (h.1 x) (h.2 x)⟩
theorem lo_take {l : List Nat} (h : Lo l) (k : Nat) : Lo (l.take k) := fun x hx => h x (List.mem_of_mem_take hx)
theorem lo_drop {l : List Nat} (h : Lo l) (k : Nat) : Lo (l.drop k) := fun x hx => h x (List.mem_of_mem_drop hx)
theorem lo_getD {l : List Nat} (h : Lo l) (k : Nat) : l.getD k 0 < 1000000000 := by
  rw [List.getD_eq_getElem?_getD]
  by_cases hk : k < l.length
  · rw [List.getElem?_eq_getElem hk]; exact h _ (List.getElem_mem hk)
  · rw [List.getElem?_eq_none (by omega)]; simp

theorem lo_lim (n : Nat) : Lo (lim n) := by
  induction n using Nat.strongRecOn with
  | _ n ih =>
    by_cases h : n = 0
    · subst h; rw [lim_zero]; exact lo_nil
    · rw [lim_pos h, lo_cons]; exact ⟨Nat.mod_lt _ (by omega), ih _ (by omega)⟩

/-- A list of limbs whose last one is not 0 is the list of the limbs of its number. -/
theorem lim_val_of {l : List Nat} (h : Lo l) (hl : l.getLastD 1 ≠ 0) : lim (val l) = l := by
  induction l with
  | nil => simp [val, lim_zero]
  | cons x l ih =>
    rw [lo_cons] at h
    have hv : val (x :: l) ≠ 0 := by
      intro e
      simp only [val] at e
      have hx : x = 0 := by omega
      have hz : val l = 0 := by omega
      cases l with
      | nil => simp [hx] at hl
      | cons y l' =>
        have := ih h.2 (by simpa using hl)
        rw [hz, lim_zero] at this
        cases this
    rw [lim_pos hv]
    simp only [val]
    have h1 : (x + 1000000000 * val l) % 1000000000 = x := by omega
    have h2 : (x + 1000000000 * val l) / 1000000000 = val l := by omega
    rw [h1, h2]
    congr 1
    apply ih h.2
    cases l with
    | nil => simp
    | cons y l' => simpa using hl

theorem last_lim (n : Nat) : (lim n).getLastD 1 ≠ 0 := by
  induction n using Nat.strongRecOn with
  | _ n ih =>
    by_cases h : n = 0
    · subst h; simp [lim_zero]
    · rw [lim_pos h]
      have := ih (n / 1000000000) (by omega)
      by_cases h2 : n / 1000000000 = 0
      · rw [h2, lim_zero]; simp; omega
      · rw [lim_pos h2] at this ⊢
        simpa using this

theorem val_lt {l : List Nat} (h : Lo l) : val l < pw l.length := by
  induction l with
  | nil => simp [val, pw]
  | cons x l ih =>
    rw [lo_cons] at h
    have := ih h.2
    simp only [val, List.length_cons, pw_succ]
    omega

theorem lim_len_le {n k : Nat} : (lim n).length ≤ k ↔ n < pw k := by
  induction k generalizing n with
  | zero =>
    by_cases h : n = 0
    · subst h; simp [lim_zero, pw]
    · rw [lim_pos h]; simp [pw]; omega
  | succ k ih =>
    by_cases h : n = 0
    · subst h; simp [lim_zero, pw_pos]
    · rw [lim_pos h, List.length_cons, pw_succ]
      have := ih (n := n / 1000000000)
      constructor
      · intro hk
        have := this.1 (by omega)
        omega
      · intro hk
        have := this.2 (by omega)
        omega

theorem lim_len_lt {n k : Nat} : k < (lim n).length ↔ pw k ≤ n := by
  have := lim_len_le (n := n) (k := k)
  omega

theorem lim_lt (n : Nat) : n < pw (lim n).length := lim_len_le.1 (Nat.le_refl _)
theorem lim_len_mono {a b : Nat} (h : a ≤ b) : (lim a).length ≤ (lim b).length := lim_len_le.2 (Nat.lt_of_le_of_lt h (lim_lt b))
theorem lim_len_mul (a b : Nat) : (lim (a * b)).length ≤ (lim a).length + (lim b).length := by
  rw [lim_len_le, pw_add]
  have ha := lim_lt a
  have hb := lim_lt b
  have := Nat.mul_le_mul (Nat.succ_le_of_lt ha) (Nat.succ_le_of_lt hb)
  grind
theorem lim_len_add (a b : Nat) : (lim (a + b)).length ≤ max (lim a).length (lim b).length + 1 := by
  rw [lim_len_le, pw_succ]
  have ha := Nat.lt_of_lt_of_le (lim_lt a) (pw_mono (Nat.le_max_left (lim a).length (lim b).length))
  have hb := Nat.lt_of_lt_of_le (lim_lt b) (pw_mono (Nat.le_max_right (lim a).length (lim b).length))
  omega
theorem lim_nil_iff {n : Nat} : (lim n).length = 0 ↔ n = 0 := by
  have := lim_len_le (n := n) (k := 0)
  simp only [pw_zero] at this
  omega
theorem lim_inj {a b : Nat} (h : lim a = lim b) : a = b := by rw [← val_lim a, ← val_lim b, h]

/-- A list of limbs without the zeros at its end. -/
theorem val_zeros {l : List Nat} (h : ∀ x ∈ l, x = 0) : val l = 0 := by
  induction l with
  | nil => rfl
  | cons x l ih =>
    simp only [val]
    have h1 := h x (by simp)
    have h2 := ih (fun y hy => h y (by simp [hy]))
    omega
theorem val_take_of_zeros {l : List Nat} {m : Nat} (h : ∀ j, m ≤ j → j < l.length → l.getD j 0 = 0) : val (l.take m) = val l := by
  have e : val l = val (l.take m ++ l.drop m) := by rw [List.take_append_drop]
  rw [e, val_append, val_zeros (l := l.drop m), Nat.mul_zero, Nat.add_zero]
  intro x hx
  obtain ⟨j, hj, rfl⟩ := List.getElem_of_mem hx
  rw [List.getElem_drop]
  have := h (m + j) (by omega) (by simp at hj; omega)
  rw [List.getD_eq_getElem?_getD, List.getElem?_eq_getElem (by simp at hj; omega)] at this
  simpa using this
/-- Where the zeros at the end begin: there the limbs end. -/
theorem trim_to {l : List Nat} {m : Nat} (hl : Lo l) (hm : m ≤ l.length) (h : ∀ j, m ≤ j → j < l.length → l.getD j 0 = 0) (hlast : m = 0 ∨ l.getD (m - 1) 0 ≠ 0) :
    lim (val l) = l.take m := by
  rw [← val_take_of_zeros h]
  apply lim_val_of (lo_take hl m)
  rcases hlast with rfl | hne
  · simp
  · by_cases h0 : m = 0
    · subst h0; simp
    · rw [List.getLastD_eq_getLast?, List.getLast?_eq_getElem?, List.length_take, Nat.min_eq_left hm, List.getElem?_take, if_pos (by omega)]
      rw [List.getD_eq_getElem?_getD] at hne
      cases hx : l[m - 1]? with
      | none => rw [List.getElem?_eq_none_iff] at hx; omega
      | some x => rw [hx] at hne; simpa using hne
theorem lim_val_len {l : List Nat} (hl : Lo l) : (lim (val l)).length ≤ l.length := lim_len_le.2 (val_lt hl)
theorem lim_small {n : Nat} (h : n < 1000000000) (h0 : n ≠ 0) : lim n = [n] := by
  rw [lim_pos h0, Nat.div_eq_of_lt h, lim_zero, Nat.mod_eq_of_lt h]

/-- One limb more at the high end. -/
theorem val_take_succ {l : List Nat} {k : Nat} (h : k < l.length) : val (l.take (k + 1)) = val (l.take k) + pw k * l.getD k 0 := by
  rw [List.take_succ_eq_append_getElem h, val_append, List.length_take, Nat.min_eq_left (Nat.le_of_lt h), List.getD_eq_getElem?_getD, List.getElem?_eq_getElem h]
  simp [val]
theorem val_drop {l : List Nat} {k : Nat} (h : k < l.length) : val (l.drop k) = l.getD k 0 + 1000000000 * val (l.drop (k + 1)) := by
  rw [List.drop_eq_getElem_cons h, val, List.getD_eq_getElem?_getD, List.getElem?_eq_getElem h]
  rfl
theorem val_split (l : List Nat) (k : Nat) (h : k ≤ l.length) : val l = val (l.take k) + pw k * val (l.drop k) := by
  have e : val l = val (l.take k ++ l.drop k) := by rw [List.take_append_drop]
  rw [e, val_append, List.length_take, Nat.min_eq_left h]
/-- The limb k of a number. -/
theorem lim_getD (n k : Nat) : (lim n).getD k 0 = n / pw k % 1000000000 := by
  induction k generalizing n with
  | zero =>
    by_cases h : n = 0
    · subst h; simp [lim_zero, pw]
    · rw [lim_pos h]; simp [pw]
  | succ k ih =>
    by_cases h : n = 0
    · subst h; simp [lim_zero]
    · rw [lim_pos h, pw_succ, ← Nat.div_div_eq_div_mul]
      simpa using ih (n / 1000000000)
end Go.Proofs.YtbeocfiimminiaaDoor
