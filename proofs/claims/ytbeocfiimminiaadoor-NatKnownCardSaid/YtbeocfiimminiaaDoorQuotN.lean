/-
  Package nat's Cmp, Gcd, Lcm, Div at numbers.
-/
import Derived.Test.YtbeocfiimminiaaDoorNGcd
import Derived.Test.YtbeocfiimminiaaDoorNCmpL
import Derived.Test.YtbeocfiimminiaaDoorRingA
import Derived.Test.YtbeocfiimminiaaDoorFit
namespace Go.Proofs.YtbeocfiimminiaaDoor
open Go.RowKit
set_option linter.unusedVariables false

theorem fst2_lim {x y : Nat} (hx : (lim x).length ≤ 1024) (hy : (lim y).length ≤ 1024) : fst2 (chk (lim x)) (chk (lim y)) = 0 := by simp [fst2, chk_lim hx, chk_lim hy]

theorem ncmp_n {w : World} {va vb : Value} {x y lo hi lo' hi' : Nat} (ha : IsN w lo hi va x) (hb : IsN w lo' hi' vb y) (hi1 : hi ≤ w.heap.size) (hi2 : hi' ≤ w.heap.size) (hx : (lim x).length ≤ 1024) (hy : (lim y).length ≤ 1024) :
    Calls Tryd.prog 17 #[va, vb] w fun e w' => e = .returned (.tuple #[.int .i64 (sgn x y), .int .i64 0]) ∧ Below w.heap.size w w' := by
  have h := ncmp_l ha hb hi1 hi2
  have e : cmpv (lim x) (lim y) = sgn x y := by unfold cmpv; rw [if_pos (fst2_lim hx hy), val_lim, val_lim]
  rw [fst2_lim hx hy, e] at h
  exact h

theorem ngcd_n {w : World} {va vb : Value} {x y : Nat} (ha : IsN w 0 w.heap.size va x) (hb : IsN w 0 w.heap.size vb y) (hB : Bru w) (hx : (lim x).length ≤ 1024) (hy : (lim y).length ≤ 1024) :
    Calls Tryd.prog 20 #[va, vb] w fun e w' => (∃ v, e = .returned (.tuple #[v, .int .i64 0]) ∧ IsN w' w.heap.size w'.heap.size v (Nat.gcd x y)) ∧ Below w.heap.size w w' := by
  have h := ngcd_l ha hb hB
  have e : gcd2 (lim x) (lim y) = Nat.gcd x y := by unfold gcd2; rw [if_pos (fst2_lim hx hy), val_lim, val_lim]
  rw [fst2_lim hx hy, e] at h
  exact h

theorem nlcm_n {w : World} {va vb : Value} {x y : Nat} (ha : IsN w 0 w.heap.size va x) (hb : IsN w 0 w.heap.size vb y) (hB : Bru w) (hx : (lim x).length ≤ 1024) (hy : (lim y).length ≤ 1024) (hn : (lim (lcmN x y)).length ≤ 1024) :
    Calls Tryd.prog 22 #[va, vb] w fun e w' => (∃ v, e = .returned (.tuple #[v, .int .i64 0]) ∧ IsN w' w.heap.size w'.heap.size v (lcmN x y)) ∧ Below w.heap.size w w' := by
  have h := nlcm_l ha hb hB
  rw [val_lim, val_lim, (op2_lim hx hy hn).1, (op2_lim hx hy hn).2] at h
  exact h

theorem lim_pos2 {Y : Nat} (h : 0 < Y) : 1 ≤ (lim Y).length := by
  have := lim_nil_iff (n := Y)
  omega
theorem gcd_lcmN {x y : Nat} : Nat.gcd x y * lcmN x y = x * y := by
  unfold lcmN
  rw [← Nat.mul_assoc, Nat.mul_div_cancel' (Nat.gcd_dvd_left x y)]
theorem gcd_both {x y : Nat} (h : 0 < Nat.gcd x y) : Nat.gcd (x / Nat.gcd x y) (y / Nat.gcd x y) = 1 := by
  rw [Nat.gcd_div (Nat.gcd_dvd_left x y) (Nat.gcd_dvd_right x y), Nat.div_self h]
theorem sgn_mod {x y : Nat} (h : 0 < y) : sgn (x % y) y = -1 := sgn_lt (Nat.mod_lt _ h)
end Go.Proofs.YtbeocfiimminiaaDoor
