/-
  Plain facts on decimal digits and texts.
-/
import Derived.Test.YtbeocfiimminiaaDoorPlain3
namespace Go.Proofs.YtbeocfiimminiaaDoor

/-- A power of ten. -/
def tn (k : Nat) : Nat := 10 ^ k
theorem tn_zero : tn 0 = 1 := rfl
theorem tn_succ (k : Nat) : tn (k + 1) = 10 * tn k := by simp [tn, Nat.pow_succ, Nat.mul_comm]
theorem tn_pos (k : Nat) : 0 < tn k := Nat.pow_pos (by omega)
theorem tn_add (a b : Nat) : tn (a + b) = tn a * tn b := by simp [tn, Nat.pow_add]
theorem tn_mono {a b : Nat} (h : a ≤ b) : tn a ≤ tn b := Nat.pow_le_pow_right (by omega) h
theorem tn_lt {a b : Nat} (h : a < b) : tn a < tn b := Nat.pow_lt_pow_right (by omega) h
theorem tn_nine (k : Nat) : tn (9 * k) = pw k := by
  unfold tn pw
  rw [Nat.pow_mul]

/-- The digit p of a number, from the lowest one. -/
def dg (n p : Nat) : Nat := n / tn p % 10
theorem dg_lt (n p : Nat) : dg n p < 10 := Nat.mod_lt _ (by omega)
/-- The digits of a limb are digits of the number. -/
theorem dg_limb (n i k : Nat) (hk : k < 9) : (n / pw i % 1000000000) / tn k % 10 = dg n (9 * i + k) := by
  have e : (1000000000 : Nat) = tn k * (10 * tn (8 - k)) := by
    rw [← Nat.mul_assoc, Nat.mul_comm (tn k) 10, ← tn_succ, ← tn_add, show k + 1 + (8 - k) = 9 by omega]
    rfl
  unfold dg
  rw [tn_add, tn_nine, ← Nat.div_div_eq_div_mul]
  rw [e, Nat.mod_mul_right_div_self, Nat.mod_mul_right_mod]
theorem dg_high {n p : Nat} (h : n < tn p) : dg n p = 0 := by unfold dg; rw [Nat.div_eq_of_lt h]

/-- How many digits a number has; 0 has none. -/
def ndig (n : Nat) : Nat := if n = 0 then 0 else ndig (n / 10) + 1
termination_by n
decreasing_by omega
theorem ndig_zero : ndig 0 = 0 := by rw [ndig]; simp
theorem ndig_pos {n : Nat} (h : n ≠ 0) : ndig n = ndig (n / 10) + 1 := by rw [ndig]; simp [h]
theorem ndig_le {n k : Nat} : ndig n ≤ k ↔ n < tn k := by
  induction k generalizing n with
  | zero =>
    by_cases h : n = 0
    · subst h; simp [ndig_zero, tn]
    · rw [ndig_pos h]; simp [tn]; omega
  | succ k ih =>
    by_cases h : n = 0
    · subst h; simp [ndig_zero, tn_pos]
    · rw [ndig_pos h, tn_succ]
      have := ih (n := n / 10)
      constructor
      · intro hk
        have := this.1 (by omega)
        omega
      · intro hk
        have := this.2 (by omega)
        omega
theorem ndig_eq {n d : Nat} (h1 : n < tn (d + 1)) (h2 : tn d ≤ n) : ndig n = d + 1 := by
  have a1 := ndig_le.2 h1
  have a2 : ¬ ndig n ≤ d := by rw [ndig_le]; omega
  omega
/-- A number below a power of ten whose digits from d on are 0 is below a lesser one. -/
theorem lt_of_zeros {n d k : Nat} (h : n < tn (d + k)) (hz : ∀ p, d ≤ p → p < d + k → dg n p = 0) : n < tn d := by
  induction k with
  | zero => exact h
  | succ k ih =>
    apply ih
    · have h1 := hz (d + k) (by omega) (by omega)
      unfold dg at h1
      rw [show d + (k + 1) = d + k + 1 by omega, tn_succ] at h
      have h2 : n / tn (d + k) < 10 := Nat.div_lt_of_lt_mul (by rw [Nat.mul_comm]; exact h)
      rw [Nat.mod_eq_of_lt h2] at h1
      have := Nat.div_eq_zero_iff.1 h1
      have := tn_pos (d + k)
      omega
    · intro p hp hp2
      exact hz p hp (by omega)
theorem ge_of_digit {n d : Nat} (h : dg n d ≠ 0) : tn d ≤ n := by
  rcases Nat.lt_or_ge n (tn d) with h1 | h1
  · exact absurd (dg_high h1) h
  · exact h1

/-- The text of a number: its digits, the highest one first. -/
def txt (n : Nat) : List Nat := if n = 0 then [48] else (List.range (ndig n)).map fun q => 48 + dg n (ndig n - 1 - q)
theorem txt_zero : txt 0 = [48] := rfl
theorem txt_of {n d : Nat} (h1 : n < tn (d + 1)) (h2 : tn d ≤ n) : txt n = (List.range (d + 1)).map fun q => 48 + dg n (d - q) := by
  have h0 : n ≠ 0 := by have := tn_pos d; omega
  unfold txt
  rw [if_neg h0, ndig_eq h1 h2]
  rfl
theorem txt_length {n : Nat} (h : n ≠ 0) : (txt n).length = ndig n := by unfold txt; rw [if_neg h]; simp

/-- The bytes of a list of numbers. -/
def bs (l : List Nat) : ByteArray := ⟨(l.map UInt8.ofNat).toArray⟩
theorem bs_size (l : List Nat) : (bs l).size = l.length := by simp [bs, ByteArray.size]
end Go.Proofs.YtbeocfiimminiaaDoor
