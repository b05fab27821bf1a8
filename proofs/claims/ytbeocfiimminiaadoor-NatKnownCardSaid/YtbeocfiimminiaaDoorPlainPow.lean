/-
  Plain facts on powers by squaring, and on single bits.
-/
import Derived.Test.YtbeocfiimminiaaDoorPlain
import Derived.Laws.Bits64
import Derived.IntWalk
namespace Go.Proofs.YtbeocfiimminiaaDoor

theorem bits_and_i64_nat (a b : Nat) (ha : a < 9223372036854775808) (hb : b < 9223372036854775808) :
    bits .and .i64 (a : Int) (b : Int) = ((a &&& b : Nat) : Int) := by
  have hx : a &&& b < 2 ^ 63 := Nat.and_lt_two_pow _ (by omega)
  have h1 : (BitVec.ofInt 64 (a : Int)).toNat = a := by
    rw [BitVec.ofInt_natCast, BitVec.toNat_ofNat]; exact Nat.mod_eq_of_lt (by omega)
  have h2 : (BitVec.ofInt 64 (b : Int)).toNat = b := by
    rw [BitVec.ofInt_natCast, BitVec.toNat_ofNat]; exact Nat.mod_eq_of_lt (by omega)
  show IntKind.i64.wrap ((BitVec.ofInt 64 (a : Int) &&& BitVec.ofInt 64 (b : Int)).toNat : Int) = _
  rw [BitVec.toNat_and, h1, h2, IntWalk.i64_in _ (by omega)]

theorem bit_set {n b j : Nat} (hb : b = 2 ^ j) (hn : n ≤ 10000) (hj : j ≤ 13) (h : n / b % 2 = 1) : (bits .and .i64 (n : Int) (b : Int) != 0) = true := by
  have h2 : b ≤ 2 ^ 13 := by rw [hb]; exact Nat.pow_le_pow_right (by omega) hj
  have h3 : 0 < b := by rw [hb]; exact Nat.pow_pos (by omega)
  rw [bits_and_i64_nat n b (by omega) (by omega), bne_iff_ne]
  have h4 : (n &&& b).testBit j = true := by
    rw [Nat.testBit_and, Nat.testBit_eq_decide_div_mod_eq, ← hb, hb, Nat.testBit_two_pow_self, ← hb]
    simp [h]
  intro h5
  have h6 : n &&& b = 0 := by omega
  rw [h6, Nat.zero_testBit] at h4
  cases h4
theorem bit_clear {n b j : Nat} (hb : b = 2 ^ j) (hn : n ≤ 10000) (hj : j ≤ 13) (h : ¬ n / b % 2 = 1) : (bits .and .i64 (n : Int) (b : Int) != 0) = false := by
  have h2 : b ≤ 2 ^ 13 := by rw [hb]; exact Nat.pow_le_pow_right (by omega) hj
  rw [bits_and_i64_nat n b (by omega) (by omega)]
  have h4 : n &&& b = 0 := by
    apply Nat.eq_of_testBit_eq
    intro i
    rw [Nat.testBit_and, Nat.zero_testBit]
    by_cases hi : j = i
    · subst hi
      rw [Nat.testBit_eq_decide_div_mod_eq, ← hb]
      simp [h]
    · rw [hb, Nat.testBit_two_pow_of_ne hi, Bool.and_false]
  rw [h4]
  rfl

/-- Where the squaring stands: the next bit b, the exponent p so far. -/
def PowAt (n b p : Nat) : Prop := (b = 0 ∧ p = n) ∨ ∃ j, j ≤ 13 ∧ b = 2 ^ j ∧ p = n / b / 2

theorem PowAt.start {n : Nat} (hn : n ≤ 10000) : PowAt n 8192 0 := .inr ⟨13, Nat.le_refl _, by decide, by omega⟩
theorem PowAt.done {n p : Nat} (h : PowAt n 0 p) : p = n := by
  rcases h with ⟨_, h⟩ | ⟨j, _, h, _⟩
  · exact h
  · have : 0 < 2 ^ j := Nat.pow_pos (by omega)
    omega
theorem PowAt.next {n b p : Nat} (h : PowAt n b p) (hb : b ≠ 0) : PowAt n (b / 2) (n / b) := by
  rcases h with ⟨h, _⟩ | ⟨j, h1, h2, h3⟩
  · exact absurd h hb
  · rcases j with _ | j
    · exact .inl ⟨by subst h2; decide, by subst h2; simp⟩
    · refine .inr ⟨j, by omega, ?_, ?_⟩
      · rw [h2, Nat.pow_succ]; omega
      · have e : b = b / 2 * 2 := by rw [h2, Nat.pow_succ]; omega
        conv => lhs; rw [e, ← Nat.div_div_eq_div_mul]
theorem PowAt.exp {n b p : Nat} (h : PowAt n b p) (hb : b ≠ 0) : n / b = 2 * p + n / b % 2 := by
  rcases h with ⟨h, _⟩ | ⟨j, h1, h2, h3⟩
  · exact absurd h hb
  · omega
theorem PowAt.bit {n b p : Nat} (h : PowAt n b p) (hb : b ≠ 0) : ∃ j, j ≤ 13 ∧ b = 2 ^ j := by
  rcases h with ⟨h, _⟩ | ⟨j, h1, h2, h3⟩
  · exact absurd h hb
  · exact ⟨j, h1, h2⟩

theorem sq_pow (a p : Nat) : a ^ p * a ^ p = a ^ (2 * p) := by rw [← Nat.pow_add]; congr 1; omega
theorem sq_pow1 (a p : Nat) : a ^ (2 * p) * a = a ^ (2 * p + 1) := by rw [Nat.pow_succ]

/-- A power that is too long stays so. -/
theorem pow_over {a p n : Nat} (hp : p ≤ n) (h : 1024 < (lim (a ^ p)).length) : ¬ (lim (a ^ n)).length ≤ 1024 := by
  rcases Nat.eq_zero_or_pos a with h0 | h0
  · subst h0
    have h1 : 0 ^ p ≤ 1 := by
      rcases p with _ | p
      · simp
      · rw [Nat.pow_succ, Nat.mul_zero]; omega
    have h2 : (lim (0 ^ p)).length ≤ 1 := lim_len_le.2 (by rw [pw_one]; omega)
    omega
  · have := lim_len_mono (Nat.pow_le_pow_right h0 hp)
    omega
end Go.Proofs.YtbeocfiimminiaaDoor
