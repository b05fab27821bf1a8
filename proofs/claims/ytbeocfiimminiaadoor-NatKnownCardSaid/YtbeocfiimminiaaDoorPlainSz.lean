/-
  Plain facts on how many limbs sums, products and powers have.
-/
import Derived.Test.YtbeocfiimminiaaDoorPlainS
namespace Go.Proofs.YtbeocfiimminiaaDoor

theorem sz_add {x y k : Nat} (hx : (lim x).length ≤ k) (hy : (lim y).length ≤ k) : (lim (x + y)).length ≤ k + 1 := by
  have := lim_len_add x y
  omega
theorem sz_mul {x y k l : Nat} (hx : (lim x).length ≤ k) (hy : (lim y).length ≤ l) : (lim (x * y)).length ≤ k + l := by
  have := lim_len_mul x y
  omega
theorem sz_pow {x k : Nat} (hx : (lim x).length ≤ k) (n : Nat) : (lim (x ^ n)).length ≤ 1 + k * n := by
  induction n with
  | zero => rw [Nat.pow_zero]; exact lim_len_le.2 (by rw [Nat.mul_zero, Nat.add_zero, pw_one]; omega)
  | succ n ih =>
    rw [Nat.pow_succ]
    have := sz_mul ih hx
    rw [Nat.mul_succ]
    omega
theorem sz_le {x k l : Nat} (h : (lim x).length ≤ k) (hl : k ≤ l) : (lim x).length ≤ l := Nat.le_trans h hl
theorem sz_pow20 {x n m : Nat} (hx : (lim x).length ≤ 20) (hn : n ≤ m) : (lim (x ^ n)).length ≤ 1 + 20 * m := by
  have := sz_pow hx n
  have := Nat.mul_le_mul_left 20 hn
  omega
theorem sz_one : (lim 1).length ≤ 1 := lim_len_le.2 (by rw [pw_one]; omega)
end Go.Proofs.YtbeocfiimminiaaDoor
