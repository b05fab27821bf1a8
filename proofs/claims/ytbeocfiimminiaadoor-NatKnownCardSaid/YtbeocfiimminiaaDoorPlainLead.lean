/-
  Plain facts on the first 18 digits of a number.
-/
import Derived.Test.YtbeocfiimminiaaDoorPlain
namespace Go.Proofs.YtbeocfiimminiaaDoor

theorem top_three {y n : Nat} (hn : 3 ≤ n) (hy : y < pw n) : y / pw (n - 3) = ((lim y).getD (n - 1) 0 * 1000000000 + (lim y).getD (n - 2) 0) * 1000000000 + (lim y).getD (n - 3) 0 := by
  obtain ⟨m, rfl⟩ : ∃ m, n = m + 3 := ⟨n - 3, by omega⟩
  rw [lim_getD, lim_getD, lim_getD]
  simp only [Nat.add_sub_cancel, show m + 3 - 1 = m + 2 from by omega, show m + 3 - 2 = m + 1 from by omega]
  have h1 : y / pw (m + 1) = y / pw m / 1000000000 := by rw [pw_succ, Nat.mul_comm, Nat.div_div_eq_div_mul]
  have h2 : y / pw (m + 2) = y / pw m / 1000000000 / 1000000000 := by rw [show m + 2 = (m + 1) + 1 from rfl, pw_succ, Nat.mul_comm, ← Nat.div_div_eq_div_mul, h1]
  have h3 : y / pw m < 1000000000000000000000000000 := by
    rw [Nat.div_lt_iff_lt_mul (pw_pos m)]
    rw [show m + 3 = 3 + m from by omega, pw_add] at hy
    simp only [pw] at hy ⊢
    omega
  rw [h1, h2]
  clear h1 h2
  generalize y / pw m = Z at *
  omega

/-- Where the search for the power of ten stands. -/
def TensAt (top t c : Nat) : Prop := t * c = 1000000000 ∧ top * t < 1000000000

theorem TensAt.start {top : Nat} (h : top < 1000000000) : TensAt top 1 1000000000 := ⟨rfl, by omega⟩

/-- The digits. -/
def dig18 (y n t : Nat) : Nat := ((lim y).getD (n - 1) 0 * 1000000000 + (lim y).getD (n - 2) 0) * t + (lim y).getD (n - 3) 0 * t / 1000000000

theorem dig18_eq {y n t c : Nat} (hn : 3 ≤ n) (hy : y < pw n) (h : t * c = 1000000000) : dig18 y n t = y / (pw (n - 3) * c) := by
  have hc : 0 < c := by rcases Nat.eq_zero_or_pos c with h0 | h0; · subst h0; omega
                        · exact h0
  have ht : 0 < t := by rcases Nat.eq_zero_or_pos t with h0 | h0; · subst h0; omega
                        · exact h0
  unfold dig18
  have e0 : y / (pw (n - 3) * c) = y / pw (n - 3) / c := (Nat.div_div_eq_div_mul _ _ _).symm
  rw [e0, top_three hn hy, ← h]
  have e1 : (lim y).getD (n - 3) 0 * t / (t * c) = (lim y).getD (n - 3) 0 / c := by rw [Nat.mul_comm t c, Nat.mul_div_mul_right _ _ ht]
  have e2 : ((lim y).getD (n - 1) 0 * (t * c) + (lim y).getD (n - 2) 0) * (t * c) + (lim y).getD (n - 3) 0 = ((lim y).getD (n - 1) 0 * (t * c) + (lim y).getD (n - 2) 0) * t * c + (lim y).getD (n - 3) 0 := by rw [Nat.mul_assoc _ t c]
  have e3 : ∀ u g : Nat, (u * c + g) / c = u + g / c := fun u g => by rw [Nat.add_comm, Nat.add_mul_div_right _ _ hc, Nat.add_comm]
  rw [e1, e2, e3]

theorem dig18_le {y n t c : Nat} (h : t * c = 1000000000) (htop : (lim y).getD (n - 1) 0 * t < 1000000000) : (lim y).getD (n - 1) 0 * t + t ≤ 1000000000 ∧ t ≤ 1000000000 := by
  have hc : 0 < c := by rcases Nat.eq_zero_or_pos c with h0 | h0; · subst h0; omega
                        · exact h0
  generalize (lim y).getD (n - 1) 0 = g at *
  have h1 : g < c := by
    rcases Nat.lt_or_ge g c with h1 | h1
    · exact h1
    · have := Nat.mul_le_mul_right t h1
      rw [Nat.mul_comm c t] at this
      omega
  have h2 := Nat.mul_le_mul_right t h1
  rw [Nat.mul_comm c t, Nat.succ_eq_add_one, Nat.add_mul, Nat.one_mul] at h2
  exact ⟨by omega, by rw [← h]; exact Nat.le_mul_of_pos_right _ hc⟩

theorem cast_mul_le {a b c : Nat} (h : a * b ≤ c) : (a : Int) * (b : Int) ≤ (c : Int) := by rw [← Int.natCast_mul]; omega
theorem uncast_lt10 {a b : Nat} (h : (a : Int) * (b : Int) * 10 < 1000000000) : a * b * 10 < 1000000000 := by rw [← Int.natCast_mul] at h; omega

theorem cast_top {l : List Nat} {n T : Nat} (h : l.getD (n - 1) 0 * T + T ≤ 1000000000) : ((l.getD ((n : Int) - 1).toNat 0 : Nat) : Int) * (T : Int) + (T : Int) ≤ 1000000000 := by
  rw [show ((n : Int) - 1).toNat = n - 1 from by omega, ← Int.natCast_mul]
  omega

/-- The next power of ten. -/
theorem tens_next {top T : Nat} (h1 : 1 ≤ top) (hlt : top * T * 10 < 1000000000) (h : ∃ t, t ≤ 9 ∧ T = 10 ^ t) : T * 10 < 1000000000 ∧ (∃ t, t ≤ 9 ∧ T * 10 = 10 ^ t) ∧ top * (T * 10) ≤ 999999999 := by
  have h2 := Nat.mul_le_mul_right T h1
  have h3 : T * 10 < 1000000000 := by omega
  refine ⟨h3, ?_, by rw [← Nat.mul_assoc]; omega⟩
  obtain ⟨t, g1, g2⟩ := h
  refine ⟨t + 1, ?_, by rw [g2, Nat.pow_succ]⟩
  rcases Nat.lt_or_ge t 9 with g3 | g3
  · omega
  · have g4 := Nat.pow_le_pow_right (show 0 < 10 by omega) g3
    rw [← g2] at g4
    omega

/-- What the digits of both numbers are. -/
theorem lead_end {x y n T : Nat} (h3 : 3 ≤ n) (hx : x < pw n) (hle : y ≤ x) (htop : (lim x).getD (n - 1) 0 * T ≤ 999999999) (h : ∃ t, t ≤ 9 ∧ T = 10 ^ t) :
    ∃ S : Nat, 0 < S ∧ dig18 x n T = x / S ∧ dig18 y n T = y / S ∧ x / S ≤ 999999999999999999 ∧ (lim x).getD (n - 1) 0 * T + T ≤ 1000000000 ∧ (lim y).getD (n - 1) 0 * T + T ≤ 1000000000 := by
  obtain ⟨t, ht9, hTt⟩ := h
  have hcc : T * 10 ^ (9 - t) = 1000000000 := by rw [hTt, ← Nat.pow_add, show t + (9 - t) = 9 from by omega]
  have hyn : y < pw n := Nat.lt_of_le_of_lt hle hx
  have ex := dig18_eq h3 hx hcc
  have ey := dig18_eq h3 hyn hcc
  have h1 : (lim y).getD (n - 1) 0 ≤ (lim x).getD (n - 1) 0 := by
    rw [lim_getD, lim_getD]
    have h2 : x / pw (n - 1) < 1000000000 := by
      rw [Nat.div_lt_iff_lt_mul (pw_pos _)]
      rw [show n = (n - 1) + 1 from by omega, pw_succ] at hx
      exact hx
    have h3 : y / pw (n - 1) ≤ x / pw (n - 1) := Nat.div_le_div_right hle
    rw [Nat.mod_eq_of_lt h2, Nat.mod_eq_of_lt (by omega)]
    exact h3
  have hty := Nat.mul_le_mul_right T h1
  have hlx := dig18_le (y := x) (n := n) hcc (by omega)
  have hly := dig18_le (y := y) (n := n) hcc (by omega)
  refine ⟨pw (n - 3) * 10 ^ (9 - t), Nat.mul_pos (pw_pos _) (Nat.pow_pos (by omega)), ex, ey, ?_, hlx.1, hly.1⟩
  rw [← ex]
  have g2 := lo_getD (lo_lim x) (n - 2)
  have g3 := lo_getD (lo_lim x) (n - 3)
  unfold dig18
  generalize (lim x).getD (n - 1) 0 = u1 at *
  generalize (lim x).getD (n - 2) 0 = u2 at *
  generalize (lim x).getD (n - 3) 0 = u3 at *
  have e : (u1 * 1000000000 + u2) * T = u1 * T * 1000000000 + u2 * T := by grind
  have k3 := Nat.mul_le_mul_right T (Nat.le_of_lt_succ g2)
  have k4 := Nat.mul_le_mul_right T (Nat.le_of_lt_succ g3)
  rw [e]
  omega
end Go.Proofs.YtbeocfiimminiaaDoor
