/-
  The contract of the reference's both.
-/
import Derived.Test.YtbeocfiimminiaaDoorNatA
import Derived.Test.YtbeocfiimminiaaDoorRefA
namespace Go.Proofs.YtbeocfiimminiaaDoor
open Go.RowKit
set_option linter.unusedVariables false

set_option maxHeartbeats 400000 in
theorem rboth_l {w : World} {va vb : Value} {a b : List Nat} {lo hi lo' hi' : Nat} (ha : IsL .u32 w lo hi va a) (hb : IsL .u32 w lo' hi' vb b) :
    Calls Tryd.prog 38 #[va, vb] w fun e w' => e = .returned (.int .i64 (fst2 (chk a) (chk b))) ∧ w = w' := by
  have Ha := Lib.hid ha
  have Hb := Lib.hid hb
  obtain ⟨A, c, rfl, _, _, _⟩ := ha
  obtain ⟨B, d, rfl, _, _, _⟩ := hb
  by_cases h : chk a = 0
  · have H : Hid (fst2 (chk a) (chk b) = chk b) := by unfold Hid fst2; rw [if_neg (by omega)]
    have Hc := Lib.hid h
    clear h
    go_enter Tryd.func38, Tryd.ntmps38
    go_wp2_with fail
    refine (rcheck_l Ha.out).mono ?_
    rw [Hc.out]
    rintro e w1 ⟨rfl, rfl⟩
    go_wp2_with fail
    refine (rcheck_l Hb.out).mono ?_
    rintro e w1 ⟨rfl, rfl⟩
    go_wp2_with fail
    go_ret
    exact ⟨ret_int H.out.symm, rfl⟩
  · have H : Hid (fst2 (chk a) (chk b) = chk a) := by unfold Hid fst2; rw [if_pos h]
    generalize hx : chk a = x at *
    have Hx := Lib.hid hx
    have hne : (x != 0) = true := bne_iff_ne.2 h
    clear h hx
    go_enter Tryd.func38, Tryd.ntmps38
    go_wp2_with fail
    refine (rcheck_l Ha.out).mono ?_
    rw [Hx.out]
    rintro e w1 ⟨rfl, rfl⟩
    go_wp2_with fail
    go_ret
    exact ⟨ret_int H.out.symm, rfl⟩

end Go.Proofs.YtbeocfiimminiaaDoor
