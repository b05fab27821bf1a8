/-
  The contracts of the law's helpers sum and product, of parlourkit's Mod, of Pow at a number.
-/
import Derived.Test.YtbeocfiimminiaaDoorAdd
import Derived.Test.YtbeocfiimminiaaDoorPow
import Derived.Test.YtbeocfiimminiaaDoorKitA
import Derived.Test.YtbeocfiimminiaaDoorSumsN
import Derived.Test.YtbeocfiimminiaaDoorPlainSz
namespace Go.Proofs.YtbeocfiimminiaaDoor
open Go.RowKit
set_option linter.unusedVariables false

theorem IsN.toL {w : World} {lo hi : Nat} {v : Value} {n : Nat} (h : IsN w lo hi v n) : IsL .u32 w lo hi v (lim n) := h
theorem chk_sz {n : Nat} (h : (lim n).length ≤ 1024) : chk (lim n) = 0 := chk_lim h
theorem op2_lim {x y n : Nat} (hx : (lim x).length ≤ 1024) (hy : (lim y).length ≤ 1024) (hn : (lim n).length ≤ 1024) : op2 (lim x) (lim y) n = n ∧ op2e (lim x) (lim y) n = 0 := by
  have h : fst2 (chk (lim x)) (chk (lim y)) = 0 := by simp [fst2, chk_lim hx, chk_lim hy]
  unfold op2 op2e
  rw [if_pos h, if_pos h]
  exact ⟨fitv_le hn, fite_le hn⟩

theorem nadd_n {w : World} {va vb : Value} {x y lo hi lo' hi' : Nat} (ha : IsN w lo hi va x) (hb : IsN w lo' hi' vb y) (hi1 : hi ≤ w.heap.size) (hi2 : hi' ≤ w.heap.size) (hx : (lim x).length ≤ 1024) (hy : (lim y).length ≤ 1024) (hn : (lim (x + y)).length ≤ 1024) :
    Calls Tryd.prog 28 #[va, vb] w fun e w' => (∃ v, e = .returned (.tuple #[v, .int .i64 0]) ∧ IsN w' w.heap.size w'.heap.size v (x + y)) ∧ Below w.heap.size w w' := by
  have h := nadd_l ha.toL hb.toL hi1 hi2
  rw [val_lim, val_lim] at h
  obtain ⟨e1, e2⟩ := op2_lim hx hy hn
  rw [e1, e2] at h
  exact h
theorem nmul_n {w : World} {va vb : Value} {x y lo hi lo' hi' : Nat} (ha : IsN w lo hi va x) (hb : IsN w lo' hi' vb y) (hi1 : hi ≤ w.heap.size) (hi2 : hi' ≤ w.heap.size) (hx : (lim x).length ≤ 1024) (hy : (lim y).length ≤ 1024) (hn : (lim (x * y)).length ≤ 1024) :
    Calls Tryd.prog 32 #[va, vb] w fun e w' => (∃ v, e = .returned (.tuple #[v, .int .i64 0]) ∧ IsN w' w.heap.size w'.heap.size v (x * y)) ∧ Below w.heap.size w w' := by
  have h := nmul_l ha.toL hb.toL hi1 hi2
  rw [val_lim, val_lim] at h
  obtain ⟨e1, e2⟩ := op2_lim hx hy hn
  rw [e1, e2] at h
  exact h
theorem nsub_n {w : World} {va vb : Value} {x y lo hi lo' hi' : Nat} (ha : IsN w lo hi va x) (hb : IsN w lo' hi' vb y) (hi1 : hi ≤ w.heap.size) (hi2 : hi' ≤ w.heap.size) (hx : (lim x).length ≤ 1024) (hy : (lim y).length ≤ 1024) (hle : y ≤ x) :
    Calls Tryd.prog 29 #[va, vb] w fun e w' => (∃ v, e = .returned (.tuple #[v, .int .i64 0]) ∧ IsN w' w.heap.size w'.heap.size v (x - y)) ∧ Below w.heap.size w w' := by
  have h := nsub_l ha.toL hb.toL hi1 hi2
  have h0 : fst2 (chk (lim x)) (chk (lim y)) = 0 := by simp [fst2, chk_lim hx, chk_lim hy]
  rw [sub2, sub2e, if_pos h0, if_pos h0, val_lim, val_lim, if_neg (by omega)] at h
  exact h
theorem npow_n {w : World} {va : Value} {x lo hi : Nat} (n : Int) (ha : IsN w lo hi va x) (hi1 : hi ≤ w.heap.size) (hx : (lim x).length ≤ 1024) (h0 : 0 ≤ n) (h1 : n ≤ 10000) (hn : (lim (x ^ n.toNat)).length ≤ 1024) :
    Calls Tryd.prog 30 #[va, .int .i64 n] w fun e w' => (∃ v, e = .returned (.tuple #[v, .int .i64 0]) ∧ IsN w' w.heap.size w'.heap.size v (x ^ n.toNat)) ∧ Below w.heap.size w w' := by
  have h := npow_l n ha.toL hi1
  obtain ⟨m, rfl⟩ := Int.eq_ofNat_of_zero_le h0
  rw [powv_ok (chk_lim hx) (by omega), powe_ok (chk_lim hx) (by omega), val_lim] at h
  rw [Int.toNat_natCast] at hn ⊢
  rw [fitv_le hn, fite_le hn] at h
  exact h

set_option maxHeartbeats 400000 in
theorem sum_n {w : World} {va vb : Value} {x y lo hi lo' hi' : Nat} (ha : IsN w lo hi va x) (hb : IsN w lo' hi' vb y) (hi1 : hi ≤ w.heap.size) (hi2 : hi' ≤ w.heap.size) (hx : (lim x).length ≤ 1024) (hy : (lim y).length ≤ 1024) (hn : (lim (x + y)).length ≤ 1024) :
    Calls Tryd.prog 24 #[va, vb] w fun e w' => (∃ v, e = .returned v ∧ IsN w' w.heap.size w'.heap.size v (x + y)) ∧ Below w.heap.size w w' := by
  have Ha := Lib.hid ha
  have Hb := Lib.hid hb
  obtain ⟨A, c, rfl, _, _, _⟩ := ha
  obtain ⟨B, d, rfl, _, _, _⟩ := hb
  go_enter Tryd.func24, Tryd.ntmps24
  go_wp2_with fail
  refine (nadd_n Ha.out Hb.out hi1 hi2 hx hy hn).mono ?_
  rintro e w1 ⟨⟨v1, rfl, hv1⟩, hb1⟩
  go_wp2_with fail
  go_ret
  exact ⟨⟨_, rfl, hv1⟩, hb1⟩
set_option maxHeartbeats 400000 in
theorem product_n {w : World} {va vb : Value} {x y lo hi lo' hi' : Nat} (ha : IsN w lo hi va x) (hb : IsN w lo' hi' vb y) (hi1 : hi ≤ w.heap.size) (hi2 : hi' ≤ w.heap.size) (hx : (lim x).length ≤ 1024) (hy : (lim y).length ≤ 1024) (hn : (lim (x * y)).length ≤ 1024) :
    Calls Tryd.prog 25 #[va, vb] w fun e w' => (∃ v, e = .returned v ∧ IsN w' w.heap.size w'.heap.size v (x * y)) ∧ Below w.heap.size w w' := by
  have Ha := Lib.hid ha
  have Hb := Lib.hid hb
  obtain ⟨A, c, rfl, _, _, _⟩ := ha
  obtain ⟨B, d, rfl, _, _, _⟩ := hb
  go_enter Tryd.func25, Tryd.ntmps25
  go_wp2_with fail
  refine (nmul_n Ha.out Hb.out hi1 hi2 hx hy hn).mono ?_
  rintro e w1 ⟨⟨v1, rfl, hv1⟩, hb1⟩
  go_wp2_with fail
  go_ret
  exact ⟨⟨_, rfl, hv1⟩, hb1⟩
end Go.Proofs.YtbeocfiimminiaaDoor
