/-
  Plain facts on the reference's long division.
-/
import Derived.Test.YtbeocfiimminiaaDoorPlainS
namespace Go.Proofs.YtbeocfiimminiaaDoor

theorem drop_lt {l : List Nat} (h : Lo l) {k n : Nat} (hk : l.length ≤ k + n) : val (l.drop k) < pw n := by
  have h1 := val_lt (lo_drop h k)
  have h2 : pw (l.drop k).length ≤ pw n := pw_mono (by rw [List.length_drop]; omega)
  omega
theorem val_drop_div (R k : Nat) : val ((lim R).drop k) = R / pw k := by
  rcases Nat.lt_or_ge (lim R).length k with h | h
  · rw [List.drop_eq_nil_of_le (by omega), val_nil, Nat.div_eq_of_lt (lim_len_le.1 (by omega))]
  · have h1 := val_split (lim R) k h
    rw [val_lim] at h1
    have h2 := val_lt (lo_take (lo_lim R) k)
    rw [List.length_take, Nat.min_eq_left h] at h2
    conv => rhs; rw [h1]
    rw [Nat.add_mul_div_left _ _ (pw_pos k), Nat.div_eq_of_lt h2, Nat.zero_add]

/-- The top limb of a number. -/
theorem top_le {B n : Nat} : (lim B).getD n 0 * pw n ≤ B := by
  rw [lim_getD]
  have h1 := Nat.div_mul_le_self B (pw n)
  have h2 := Nat.mul_le_mul_right (pw n) (Nat.mod_le (B / pw n) 1000000000)
  omega
theorem top_ge {B n : Nat} (hn : (lim B).length = n + 1) : 1 ≤ (lim B).getD n 0 := by
  rw [lim_getD]
  have h1 : pw n ≤ B := lim_len_lt.1 (by omega)
  have h2 : B < pw (n + 1) := lim_len_le.1 (by omega)
  rw [pw_succ] at h2
  have h3 : B / pw n < 1000000000 := by rw [Nat.div_lt_iff_lt_mul (pw_pos n)]; exact h2
  rw [Nat.mod_eq_of_lt h3]
  exact Nat.div_pos h1 (pw_pos n)

/-- The first guess is not too small. -/
theorem guess_ge {R B n : Nat} (hn : (lim B).length = n + 1) (hR : R < B * 1000000000) {d : Nat} (hd : d = 999999999 ∨ d = R / pw n / (lim B).getD n 0) : R < (d + 1) * B := by
  rcases hd with rfl | rfl
  · rw [Nat.mul_comm]; exact hR
  · have ht := top_ge hn
    have h1 := Nat.lt_div_mul_add (a := R / pw n) (b := (lim B).getD n 0) (by omega)
    have h2 := Nat.lt_div_mul_add (a := R) (b := pw n) (pw_pos n)
    generalize R / pw n / (lim B).getD n 0 = d at *
    generalize hl : R / pw n = l at *
    have h3 : l + 1 ≤ (d + 1) * (lim B).getD n 0 := by rw [Nat.add_mul, Nat.one_mul]; omega
    have h4 := Nat.mul_le_mul_right (pw n) h3
    have h5 := Nat.mul_le_mul_left (d + 1) (top_le (B := B) (n := n))
    rw [Nat.add_mul, Nat.one_mul] at h4
    rw [Nat.mul_assoc] at h4
    omega
theorem lead_lt {R B n : Nat} (hn : (lim B).length = n + 1) (hR : R < B * 1000000000) : (lim R).length ≤ n + 2 ∧ R / pw n < 1000000000000000000 := by
  have h1 : B < pw (n + 1) := lim_len_le.1 (by omega)
  have h2 : R < pw (n + 2) := by
    rw [show n + 2 = (n + 1) + 1 from rfl, pw_succ, Nat.mul_comm]
    exact Nat.lt_of_lt_of_le hR (Nat.mul_le_mul_right _ (Nat.le_of_lt h1))
  refine ⟨lim_len_le.2 h2, ?_⟩
  rw [Nat.div_lt_iff_lt_mul (pw_pos n)]
  rw [show n + 2 = (n + 1) + 1 from rfl, pw_succ, pw_succ] at h2
  omega

/-- What the loop over the upper limbs has found at its end. -/
theorem lead_at {R n j q : Nat} (h : q = val ((lim R).drop j)) (hj : j = n ∨ (j = (lim R).length ∧ j ≤ n)) : q = R / pw n := by
  rcases hj with rfl | ⟨rfl, h1⟩
  · rw [h, val_drop_div]
  · rw [h, List.drop_length, val_nil, Nat.div_eq_of_lt (lim_len_le.1 h1)]
theorem cons_val {a R : Nat} : val (a :: lim R) = a + 1000000000 * R := by rw [val_cons, val_lim]
theorem cons_lt {a R B : Nat} (ha : a < 1000000000) (hR : R < B) : a + 1000000000 * R < B * 1000000000 := by omega
theorem digit_down {R B d : Nat} (h : R < B * d) : 1 ≤ d ∧ R < (d - 1 + 1) * B := by
  rcases d with _ | d
  · simp at h
  · exact ⟨by omega, by rw [Nat.add_sub_cancel, Nat.mul_comm]; exact h⟩

/-- A digit. -/
theorem digit_exact {R B d : Nat} (h1 : d * B ≤ R) (h2 : R < (d + 1) * B) : R - d * B < B ∧ R - d * B = R % B ∧ d = R / B := by
  have hB : 0 < B := by
    rcases Nat.eq_zero_or_pos B with h | h
    · subst h; simp at h2
    · exact h
  have h3 : R / B = d := Nat.div_eq_of_lt_le h1 h2
  rw [Nat.add_mul, Nat.one_mul] at h2
  exact ⟨by omega, by rw [Nat.mod_eq_sub_mul_div, h3, Nat.mul_comm], h3.symm⟩

/-- A step of the division: the next limb of the number, the digit. -/
theorem over_step {A Q : List Nat} {k B R d R' : Nat} (hk : k < A.length) (hq : k < Q.length) (h : val (A.drop (k + 1)) = B * val (Q.drop (k + 1)) + R) (hR : A.getD k 0 + 1000000000 * R = R') (h1 : d * B ≤ R') :
    val (A.drop k) = B * val ((Q.set k d).drop k) + (R' - d * B) := by
  rw [val_drop hk, h, drop_set hq]
  have e : B * (d + 1000000000 * val (Q.drop (k + 1))) = d * B + 1000000000 * (B * val (Q.drop (k + 1))) := by grind
  rw [e, Nat.mul_add]
  omega

/-- The upper limbs of a number are a number's limbs. -/
theorem drop_isLim (X k : Nat) : lim (val ((lim X).drop k)) = (lim X).drop k := by
  apply lim_of_len (lo_drop (lo_lim X) k)
  rcases Nat.lt_or_ge k (lim X).length with h | h
  · right
    rw [List.length_drop, val_drop_div, Nat.le_div_iff_mul_le (pw_pos k), ← pw_add]
    exact lim_len_lt.1 (by omega)
  · exact .inl (List.drop_eq_nil_of_le h)
end Go.Proofs.YtbeocfiimminiaaDoor
