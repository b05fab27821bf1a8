/-
  Both sides of Int, Cmp and Digits for any list.
-/
import Derived.Test.YtbeocfiimminiaaIntA
namespace Go.Proofs.Ytbeocfiimminiaa
open Go.RowKit
set_option linter.unusedVariables false

set_option maxHeartbeats 400000 in
theorem rboth_l {w : World} {va vb : Value} {a b : List Nat} {lo hi lo' hi' : Nat} (ha : IsL .u32 w lo hi va a) (hb : IsL .u32 w lo' hi' vb b) :
    Calls Try.prog 38 #[va, vb] w fun e w' => e = .returned (.int .i64 (fst2 (chk a) (chk b))) ∧ w = w' := by
  have Ha := Lib.hid ha
  have Hb := Lib.hid hb
  obtain ⟨A, c, rfl, _, _, _⟩ := ha
  obtain ⟨B, d, rfl, _, _, _⟩ := hb
  by_cases h : chk a = 0
  · have H : Hid (fst2 (chk a) (chk b) = chk b) := by unfold Hid fst2; rw [if_neg (by omega)]
    have Hc := Lib.hid h
    clear h
    go_enter Try.func38, Try.ntmps38
    go_wp2_with fail
    refine (rcheck_l Ha.out).mono ?_
    rw [Hc.out]
    rintro e w1 ⟨rfl, rfl⟩
    go_wp2_with fail
    refine (rcheck_l Hb.out).mono ?_
    rintro e w1 ⟨rfl, rfl⟩
    go_wp2_with fail
    go_ret
    exact ⟨ret_int H.out.symm, rfl⟩
  · have H : Hid (fst2 (chk a) (chk b) = chk a) := by unfold Hid fst2; rw [if_pos h]
    generalize hx : chk a = x at *
    have Hx := Lib.hid hx
    have hne : (x != 0) = true := bne_iff_ne.2 h
    clear h hx
    go_enter Try.func38, Try.ntmps38
    go_wp2_with fail
    refine (rcheck_l Ha.out).mono ?_
    rw [Hx.out]
    rintro e w1 ⟨rfl, rfl⟩
    go_wp2_with fail
    go_ret
    exact ⟨ret_int H.out.symm, rfl⟩

/-- What Cmp, Int and Digits return for lists. -/
def cmpv (a b : List Nat) : Int := if fst2 (chk a) (chk b) = 0 then sgn (val a) (val b) else 0
def intl (l : List Nat) : Int := if chk l = 0 then intv (val l) else 0
def intf (l : List Nat) : Int := if chk l = 0 then inte (val l) else chk l
def digl (l : List Nat) : Int := if chk l = 0 then ndg (val l) else 0
theorem fst2_zero {a b : Int} (h : fst2 a b = 0) : a = 0 ∧ b = 0 := by
  unfold fst2 at h
  split at h
  · omega
  · exact ⟨by omega, h⟩

theorem ncmp_l {w : World} {va vb : Value} {a b : List Nat} {lo hi lo' hi' : Nat} (ha : IsL .u32 w lo hi va a) (hb : IsL .u32 w lo' hi' vb b) (hi1 : hi ≤ w.heap.size) (hi2 : hi' ≤ w.heap.size) :
    Calls Try.prog 15 #[va, vb] w fun e w' => e = .returned (.tuple #[.int .i64 (cmpv a b), .int .i64 (fst2 (chk a) (chk b))]) ∧ Below w.heap.size w w' := by
  by_cases h : fst2 (chk a) (chk b) = 0
  · obtain ⟨h1, h2⟩ := fst2_zero h
    have := ncmp_ok (ha.isN h1) (hb.isN h2) hi1 hi2 (chk_len h1) (chk_len h2)
    rw [cmpv, if_pos h, h]
    exact this
  · have := ncmp_bad ha hb hi1 hi2 h
    rw [cmpv, if_neg h]
    exact this
set_option maxHeartbeats 400000 in
theorem rcmp_l {w : World} {va vb : Value} {a b : List Nat} {lo hi lo' hi' : Nat} (ha : IsL .u32 w lo hi va a) (hb : IsL .u32 w lo' hi' vb b) :
    Calls Try.prog 16 #[va, vb] w fun e w' => e = .returned (.tuple #[.int .i64 (cmpv a b), .int .i64 (fst2 (chk a) (chk b))]) ∧ Dr w w' := by
  have Ha := Lib.hid ha
  have Hb := Lib.hid hb
  obtain ⟨A, c, rfl, _, _, _⟩ := ha
  obtain ⟨B, d, rfl, _, _, _⟩ := hb
  by_cases h : fst2 (chk a) (chk b) = 0
  · obtain ⟨h1, h2⟩ := fst2_zero h
    have Hh := Lib.hid h
    have Hv : Hid (cmpv a b = sgn (val a) (val b)) := by unfold Hid cmpv; rw [if_pos h]
    have H1 := Lib.hid h1
    have H2 := Lib.hid h2
    clear h h1 h2
    go_enter Try.func16, Try.ntmps16
    go_wp2_with fail
    refine (rboth_l Ha.out Hb.out).mono ?_
    rw [Hh.out]
    rintro e w1 ⟨rfl, rfl⟩
    go_wp2_with fail
    refine (rorder_n (Ha.out.isN H1.out) (Hb.out.isN H2.out)).mono ?_
    rw [← Hv.out]
    rintro e w1 ⟨rfl, hdr⟩
    go_wp2_with fail
    go_ret2
    exact ⟨ret_ii rfl Hh.out.symm, hdr⟩
  · have Hv : Hid (cmpv a b = 0) := by unfold Hid cmpv; rw [if_neg h]
    generalize hx : fst2 (chk a) (chk b) = x at *
    have Hx := Lib.hid hx
    have hne : (x != 0) = true := bne_iff_ne.2 h
    clear h hx
    go_enter Try.func16, Try.ntmps16
    go_wp2_with fail
    refine (rboth_l Ha.out Hb.out).mono ?_
    rw [Hx.out]
    rintro e w1 ⟨rfl, rfl⟩
    go_wp2_with fail
    go_ret2
    exact ⟨ret_ii Hv.out.symm rfl, Dr.refl _⟩

theorem nint_l {w : World} {va : Value} {l : List Nat} {lo hi : Nat} (ha : IsL .u32 w lo hi va l) :
    Calls Try.prog 13 #[va] w fun e w' => e = .returned (.tuple #[.int .i64 (intl l), .int .i64 (intf l)]) ∧ w = w' := by
  by_cases h : chk l = 0
  · rw [intl, intf, if_pos h, if_pos h]
    exact nint_ok (ha.isN h) (chk_len h)
  · rw [intl, intf, if_neg h, if_neg h]
    exact nint_bad ha h
theorem rint_l {w : World} {va : Value} {l : List Nat} {lo hi : Nat} (ha : IsL .u32 w lo hi va l) (hi1 : hi ≤ w.heap.size) :
    Calls Try.prog 14 #[va] w fun e w' => e = .returned (.tuple #[.int .i64 (intl l), .int .i64 (intf l)]) ∧ Below w.heap.size w w' := by
  by_cases h : chk l = 0
  · rw [intl, intf, if_pos h, if_pos h]
    exact rint_ok (ha.isN h) hi1 (chk_len h)
  · rw [intl, intf, if_neg h, if_neg h]
    exact rint_bad ha h
theorem ndigits_l {w : World} {va : Value} {l : List Nat} {lo hi : Nat} (ha : IsL .u32 w lo hi va l) :
    Calls Try.prog 17 #[va] w fun e w' => e = .returned (.tuple #[.int .i64 (digl l), .int .i64 (chk l)]) ∧ w = w' := by
  by_cases h : chk l = 0
  · rw [digl, if_pos h, h]
    exact ndigits_ok (ha.isN h) (chk_len h)
  · rw [digl, if_neg h]
    exact ndigits_bad ha h
set_option maxHeartbeats 400000 in
theorem rdigits_l {w : World} {va : Value} {l : List Nat} {lo hi : Nat} (ha : IsL .u32 w lo hi va l) (hi1 : hi ≤ w.heap.size) :
    Calls Try.prog 18 #[va] w fun e w' => e = .returned (.tuple #[.int .i64 (digl l), .int .i64 (chk l)]) ∧ Below w.heap.size w w' := by
  have Ha := Lib.hid ha
  obtain ⟨A, c, rfl, _, _, _⟩ := ha
  by_cases h : chk l = 0
  · have Hv : Hid (digl l = (bs (txt (val l))).size) := by unfold Hid digl; rw [if_pos h, bs_size, txt_len]
    have Hh := Lib.hid h
    have Hc := Lib.hid (chk_len h)
    clear h
    go_enter Try.func18, Try.ntmps18
    go_wp2_with fail
    refine (rtext_ok (Ha.out.isN Hh.out) hi1 Hc.out).mono ?_
    generalize bs (txt (val l)) = s at *
    rintro e w1 ⟨rfl, hb⟩
    go_wp2_with fail
    go_ret2
    exact ⟨ret_ii Hv.out.symm Hh.out.symm, hb⟩
  · have Hv : Hid (digl l = 0) := by unfold Hid digl; rw [if_neg h]
    go_enter Try.func18, Try.ntmps18
    go_wp2_with fail
    refine (rtext_bad Ha.out h).mono ?_
    generalize hq : chk l = q at *
    have Hq := Lib.hid hq
    clear hq
    rintro e w1 ⟨rfl, hb⟩
    go_wp2_with fail
    go_ret2
    exact ⟨ret_ii Hv.out.symm Hq.out.symm, hb⟩
end Go.Proofs.Ytbeocfiimminiaa
