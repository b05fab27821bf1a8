/-
  The contracts of both Pow.
-/
import Derived.Test.YtbeocfiimminiaaDoorFit
import Derived.Test.YtbeocfiimminiaaDoorPlainPow
namespace Go.Proofs.YtbeocfiimminiaaDoor
open Go.RowKit
set_option linter.unusedVariables false

set_option maxHeartbeats 1000000 in
theorem npow_ok {w : World} {va : Value} {a : List Nat} {lo hi : Nat} (n : Nat) (ha : IsL .u32 w lo hi va a) (hi1 : hi ≤ w.heap.size) (h1 : n ≤ 10000) (hc : chk a = 0) :
    Calls Tryd.prog 30 #[va, .int .i64 (n : Int)] w fun e w' => (∃ v, e = .returned (.tuple #[v, .int .i64 (fite (val a ^ n))]) ∧ IsN w' w.heap.size w'.heap.size v (fitv (val a ^ n))) ∧ Below w.heap.size w w' := by
  have Ha := Lib.hid ha
  have Han := Lib.hid (ha.isN hc)
  have Hal := Lib.hid (chk_len hc)
  obtain ⟨A, c, rfl, _, _, _⟩ := ha
  have Hc := Lib.hid hc
  clear hc
  go_enter Tryd.func30, Tryd.ntmps30
  go_wp2_with fail
  refine (check_l Ha.out).mono ?_
  rw [Hc.out]
  rintro e w1 ⟨rfl, rfl⟩
  go_wp2_with fail
  refine (one_n w).mono ?_
  rintro e w1 ⟨⟨v1, rfl, hv1⟩, hb1⟩
  go_wp2_with fail
  go_loopw [7, 8] (fun v i wr => ∃ (b p : Nat), i = .int .i64 (b : Int) ∧ b ≤ 8192 ∧ IsN wr w.heap.size wr.heap.size v (val a ^ p) ∧ Below w.heap.size w wr ∧ (lim (val a ^ p)).length ≤ 1024 ∧ Hid (PowAt n b p)) (fun _ i _ => (intOf i).toNat)
  case atStart => exact ⟨8192, 0, rfl, by omega, by rw [Nat.pow_zero]; exact hv1, hb1, by rw [Nat.pow_zero, lim_one]; decide, PowAt.start h1⟩
  case round =>
    clear hv1 hb1
    obtain ⟨b, p, rfl, hb8, hv, hbw, hl, hrel⟩ := hrel
    have hV := Lib.hid hv
    obtain ⟨B, d, rfl, _, _, _⟩ := hv
    by_cases hbz : 1 ≤ b
    · have hex := Lib.hid (hrel.out.exp (by omega))
      have hnx := Lib.hid (hrel.out.next (by omega))
      obtain ⟨j, hj, hbj⟩ := hrel.out.bit (by omega)
      have Hbj := Lib.hid hbj
      clear hbj
      have hle : n / b ≤ n := Nat.div_le_self _ _
      generalize hm : n / b = m at *
      have Hm := Lib.hid hm
      clear hm
      have hpm : Hid ((lim (val a ^ p * val a ^ p)).length ≤ 2048) := Nat.le_trans (lim_len_mul _ _) (by omega)
      by_cases hbit : m % 2 = 1
      · have hB := bit_set Hbj.out h1 hj (by rw [Hm.out]; exact hbit)
        have hm2 : Hid (val a ^ p * val a ^ p * val a = val a ^ m) := by rw [Hid, sq_pow, sq_pow1, hex.out, hbit]
        clear hbit
        go_wp2_with fail
        refine (mul_n hV.out hV.out (Nat.le_refl _) (Nat.le_refl _) (by omega) (by omega)).mono ?_
        rintro e w2 ⟨⟨v2, rfl, hv2⟩, hb2⟩
        have hV2 := Lib.hid hv2
        have hbw2 := below_trans' hbw hb2
        have hA2 := Lib.hid ((Han.out.below hbw2 hi1).wide (Nat.le_refl _) (Nat.le_trans hi1 hbw2.size))
        clear hv2
        go_wp2_with fail
        refine (mul_n hV2.out hA2.out (Nat.le_refl _) (Nat.le_refl _) (by have := hpm.out; omega) (by have := Hal.out; omega)).mono ?_
        rintro e w3 ⟨⟨v3, rfl, hv3⟩, hb3⟩
        rw [hm2.out] at hv3
        have hbw3 := below_trans' hbw2 hb3
        have hV3 := Lib.hid (hv3.wide (lo' := w.heap.size) (hbw2.size) (Nat.le_refl _))
        obtain ⟨C, f, rfl, _, _, _⟩ := hv3
        by_cases hfit : (lim (val a ^ m)).length ≤ 1024
        · go_wp2
          go_roundw
          case rel => exact ⟨b / 2, m, by go_num, by omega, hV3.out, hbw3, hfit, hnx.out⟩
          case measure => simp [intOf]; omega
        · have hov := pow_over (a := val a) hle (by omega)
          have Hov := Lib.hid hov
          clear hov
          go_wp2
          go_ret2
          exact ⟨⟨.slice none 0 0, ret_v (fite_gt Hov.out).symm, by rw [fitv_gt Hov.out]; exact IsN.zero⟩, hbw3⟩
      · have hB := bit_clear Hbj.out h1 hj (by rw [Hm.out]; exact hbit)
        have hm2 : Hid (val a ^ p * val a ^ p = val a ^ m) := by rw [Hid, sq_pow, hex.out, show m % 2 = 0 from by omega, Nat.add_zero]
        clear hbit
        go_wp2_with fail
        refine (mul_n hV.out hV.out (Nat.le_refl _) (Nat.le_refl _) (by omega) (by omega)).mono ?_
        rintro e w3 ⟨⟨v3, rfl, hv3⟩, hb3⟩
        rw [hm2.out] at hv3
        have hbw3 := below_trans' hbw hb3
        have hV3 := Lib.hid (hv3.wide (lo' := w.heap.size) (hbw.size) (Nat.le_refl _))
        obtain ⟨C, f, rfl, _, _, _⟩ := hv3
        by_cases hfit : (lim (val a ^ m)).length ≤ 1024
        · go_wp2
          go_roundw
          case rel => exact ⟨b / 2, m, by go_num, by omega, hV3.out, hbw3, hfit, hnx.out⟩
          case measure => simp [intOf]; omega
        · have hov := pow_over (a := val a) hle (by omega)
          have Hov := Lib.hid hov
          clear hov
          go_wp2
          go_ret2
          exact ⟨⟨.slice none 0 0, ret_v (fite_gt Hov.out).symm, by rw [fitv_gt Hov.out]; exact IsN.zero⟩, hbw3⟩
    · obtain rfl : b = 0 := by omega
      have Hp := Lib.hid hrel.out.done
      go_wp2
      go_ret2
      rw [Hp.out] at hl
      exact ⟨⟨.slice B (lim (val a ^ p)).length d, ret_v (fite_le hl).symm, by rw [fitv_le hl, ← Hp.out]; exact hV.out⟩, hbw⟩

/-- What a power gives, and its error. -/
def powv (a : List Nat) (n : Int) : Nat := if chk a = 0 then (if n < 0 ∨ 10000 < n then 0 else fitv (val a ^ n.toNat)) else 0
def powe (a : List Nat) (n : Int) : Int := if chk a = 0 then (if n < 0 ∨ 10000 < n then 2 else fite (val a ^ n.toNat)) else chk a
theorem powv_ok {a : List Nat} {n : Nat} (h : chk a = 0) (hn : n ≤ 10000) : powv a n = fitv (val a ^ n) := by unfold powv; rw [if_pos h, if_neg (by omega), Int.toNat_natCast]
theorem powe_ok {a : List Nat} {n : Nat} (h : chk a = 0) (hn : n ≤ 10000) : powe a n = fite (val a ^ n) := by unfold powe; rw [if_pos h, if_neg (by omega), Int.toNat_natCast]
theorem powv_range {a : List Nat} {n : Int} (h : chk a = 0) (hn : n < 0 ∨ 10000 < n) : powv a n = 0 := by unfold powv; rw [if_pos h, if_pos hn]
theorem powe_range {a : List Nat} {n : Int} (h : chk a = 0) (hn : n < 0 ∨ 10000 < n) : powe a n = 2 := by unfold powe; rw [if_pos h, if_pos hn]
theorem powv_bad {a : List Nat} {n : Int} (h : chk a ≠ 0) : powv a n = 0 := by unfold powv; rw [if_neg h]
theorem powe_bad {a : List Nat} {n : Int} (h : chk a ≠ 0) : powe a n = chk a := by unfold powe; rw [if_neg h]

set_option maxHeartbeats 1000000 in
theorem npow_l {w : World} {va : Value} {a : List Nat} {lo hi : Nat} (n : Int) (ha : IsL .u32 w lo hi va a) (hi1 : hi ≤ w.heap.size) :
    Calls Tryd.prog 30 #[va, .int .i64 n] w fun e w' => (∃ v, e = .returned (.tuple #[v, .int .i64 (powe a n)]) ∧ IsN w' w.heap.size w'.heap.size v (powv a n)) ∧ Below w.heap.size w w' := by
  by_cases hc : chk a = 0
  · rcases Int.lt_or_le n 0 with hn | hn
    · rw [powv_range hc (.inl hn), powe_range hc (.inl hn)]
      have Ha := Lib.hid ha
      obtain ⟨A, c, rfl, _, _, _⟩ := ha
      have Hc := Lib.hid hc
      clear hc
      go_enter Tryd.func30, Tryd.ntmps30
      go_wp2_with fail
      refine (check_l Ha.out).mono ?_
      rw [Hc.out]
      rintro e w1 ⟨rfl, rfl⟩
      go_wp2_with fail
      go_ret2
      exact ⟨⟨_, rfl, IsN.zero⟩, Below.refl _ _⟩
    · rcases Int.lt_or_le 10000 n with hn2 | hn2
      · rw [powv_range hc (.inr hn2), powe_range hc (.inr hn2)]
        have Ha := Lib.hid ha
        obtain ⟨A, c, rfl, _, _, _⟩ := ha
        have Hc := Lib.hid hc
        clear hc
        go_enter Tryd.func30, Tryd.ntmps30
        go_wp2_with fail
        refine (check_l Ha.out).mono ?_
        rw [Hc.out]
        rintro e w1 ⟨rfl, rfl⟩
        go_wp2_with fail
        go_ret2
        exact ⟨⟨_, rfl, IsN.zero⟩, Below.refl _ _⟩
      · obtain ⟨m, rfl⟩ := Int.eq_ofNat_of_zero_le hn
        rw [powv_ok hc (by omega), powe_ok hc (by omega)]
        exact npow_ok m ha hi1 (by omega) hc
  · rw [powv_bad hc, powe_bad hc]
    have Ha := Lib.hid ha
    obtain ⟨A, c, rfl, _, _, _⟩ := ha
    generalize hx : chk a = x at *
    have Hx := Lib.hid hx
    have hne : (x != 0) = true := bne_iff_ne.2 hc
    clear hc hx
    go_enter Tryd.func30, Tryd.ntmps30
    go_wp2_with fail
    refine (check_l Ha.out).mono ?_
    rw [Hx.out]
    rintro e w1 ⟨rfl, rfl⟩
    go_wp2_with fail
    go_ret2
    exact ⟨⟨_, rfl, IsN.zero⟩, Below.refl _ _⟩
end Go.Proofs.YtbeocfiimminiaaDoor
