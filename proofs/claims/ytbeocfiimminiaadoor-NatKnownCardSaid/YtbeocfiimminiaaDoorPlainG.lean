/-
  Plain facts on greatest common divisors and powers of two.
-/
import Derived.Test.YtbeocfiimminiaaDoorPlain
namespace Go.Proofs.YtbeocfiimminiaaDoor

theorem gcd_odd {u : Nat} (hu : u % 2 = 1) (j v : Nat) : Nat.gcd u (2 ^ j * v) = Nat.gcd u v := by
  have h : Nat.Coprime u (2 ^ j) := by
    apply Nat.Coprime.pow_right
    unfold Nat.Coprime
    rw [Nat.gcd_comm, Nat.gcd_rec, hu]
    rfl
  exact Nat.Coprime.gcd_mul_left_cancel_right v h.symm

theorem or_split {a b k m : Nat} (h : a ||| b = 2 ^ k * (2 * m + 1)) : ∃ a1 b1, a = 2 ^ k * a1 ∧ b = 2 ^ k * b1 ∧ (a1 % 2 = 1 ∨ b1 % 2 = 1) := by
  have h1 : (a % 2 ^ k) ||| (b % 2 ^ k) = 0 := by rw [← Nat.or_mod_two_pow, h]; exact Nat.mul_mod_right _ _
  have ha : a % 2 ^ k = 0 := by
    have := Nat.left_le_or (n := a % 2 ^ k) (m := b % 2 ^ k)
    omega
  have hb : b % 2 ^ k = 0 := by
    have := Nat.right_le_or (n := a % 2 ^ k) (m := b % 2 ^ k)
    omega
  refine ⟨a / 2 ^ k, b / 2 ^ k, ?_, ?_, ?_⟩
  · rw [Nat.mul_comm, Nat.div_mul_cancel (Nat.dvd_of_mod_eq_zero ha)]
  · rw [Nat.mul_comm, Nat.div_mul_cancel (Nat.dvd_of_mod_eq_zero hb)]
  · have h2 : (a ||| b).testBit k = true := by
      rw [h, Nat.testBit_eq_decide_div_mod_eq, Nat.mul_div_cancel_left _ (Nat.pow_pos (by omega))]
      simp
    rw [Nat.testBit_or, Nat.testBit_eq_decide_div_mod_eq, Nat.testBit_eq_decide_div_mod_eq] at h2
    simpa using h2

theorem pow2_split {i k c d : Nat} (h : 2 ^ i * (2 * c + 1) = 2 ^ k * d) : (d % 2 = 1 → d = 2 * c + 1) ∧ ∃ j, d = 2 ^ j * (2 * c + 1) := by
  rcases Nat.lt_or_ge i k with hik | hik
  · exfalso
    obtain ⟨t, rfl⟩ : ∃ t, k = i + (t + 1) := ⟨k - i - 1, by omega⟩
    rw [Nat.pow_add, Nat.mul_assoc] at h
    have := Nat.eq_of_mul_eq_mul_left (Nat.pow_pos (by omega)) h
    rw [Nat.pow_succ] at this
    have e : 2 ^ t * 2 * d = 2 * (2 ^ t * d) := by rw [Nat.mul_comm (2 ^ t) 2, Nat.mul_assoc]
    omega
  · obtain ⟨t, rfl⟩ : ∃ t, i = k + t := ⟨i - k, by omega⟩
    rw [Nat.pow_add, Nat.mul_assoc] at h
    have hd := (Nat.eq_of_mul_eq_mul_left (Nat.pow_pos (by omega)) h).symm
    refine ⟨fun ho => ?_, t, hd⟩
    rcases t with _ | t
    · rw [hd]; simp
    · rw [hd, Nat.pow_succ, Nat.mul_comm (2 ^ t) 2, Nat.mul_assoc] at ho
      omega

/-- What a binary gcd begins with. -/
theorem bin_start {a b k m i c : Nat} (h : a ||| b = 2 ^ k * (2 * m + 1)) (ha : a = 2 ^ i * (2 * c + 1)) : Nat.gcd a b = 2 ^ k * Nat.gcd (2 * c + 1) b := by
  obtain ⟨a1, b1, e1, e2, ho⟩ := or_split h
  have hodd : (2 * c + 1) % 2 = 1 := by omega
  have hs := pow2_split (ha.symm.trans e1)
  rw [e1, e2, Nat.gcd_mul_left, gcd_odd hodd]
  congr 1
  rcases ho with h1 | h1
  · rw [hs.1 h1]
  · obtain ⟨j, hj⟩ := hs.2
    rw [hj, Nat.gcd_comm, gcd_odd h1, Nat.gcd_comm]

/-- One step of it. -/
theorem bin_step {A B j n G : Nat} (hA : A % 2 = 1) (hB : B = 2 ^ j * (2 * n + 1)) (hG : Nat.gcd A B = G) :
    (2 * n + 1 < A → Nat.gcd (2 * n + 1) (A - (2 * n + 1)) = G) ∧ (A ≤ 2 * n + 1 → Nat.gcd A (2 * n + 1 - A) = G) := by
  rw [hB, gcd_odd hA] at hG
  refine ⟨fun h => ?_, fun h => ?_⟩
  · rw [Nat.gcd_sub_self_right (by omega), Nat.gcd_comm]; exact hG
  · rw [Nat.gcd_sub_self_right h]; exact hG
theorem shift_odd {x k m : Nat} (h : x = 2 ^ k * (2 * m + 1)) : x / 2 ^ k = 2 * m + 1 := by rw [h, Nat.mul_div_cancel_left _ (Nat.pow_pos (by omega))]
theorem odd_le {x k m : Nat} (h : x = 2 ^ k * (2 * m + 1)) : 2 * m + 1 ≤ x := by
  rw [h]
  exact Nat.le_mul_of_pos_left _ (Nat.pow_pos (by omega))
end Go.Proofs.YtbeocfiimminiaaDoor
