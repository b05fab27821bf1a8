/-
  The contract of the reference's Pow.
-/
import Derived.Test.YtbeocfiimminiaaPow
import Derived.Test.YtbeocfiimminiaaAwake
namespace Go.Proofs.Ytbeocfiimminiaa
open Go.RowKit
set_option linter.unusedVariables false

theorem lit_one (w : World) (t : TypeId) : IsN (w.alloc (.cells #[.int .u32 1] t)) w.heap.size (w.alloc (.cells #[.int .u32 1] t)).heap.size (.slice (some ⟨w.heap.size, 0, none⟩) 1 1) 1 := by
  unfold IsN
  rw [lim_one]
  exact (lit_new w t [1] #[.int .u32 1] 1 (by simp [cel]) rfl (by simp [maxLen])).wide (Nat.le_refl _) (by simp)

set_option maxHeartbeats 1000000 in
theorem rpow_zero {w : World} {va : Value} {a : List Nat} {lo hi : Nat} (ha : IsL .u32 w lo hi va a) (hi1 : hi ≤ w.heap.size) (hc : chk a = 0) :
    Calls Try.prog 26 #[va, .int .i64 0] w fun e w' => (∃ v, e = .returned (.tuple #[v, .int .i64 0]) ∧ IsN w' w.heap.size w'.heap.size v 1) ∧ Below w.heap.size w w' := by
  have Ha := Lib.hid ha
  obtain ⟨A, c, rfl, _, _, _⟩ := ha
  have Hc := Lib.hid hc
  clear hc
  go_enter Try.func26, Try.ntmps26
  go_wp2_with fail
  refine (rcheck_l Ha.out).mono ?_
  rw [Hc.out]
  rintro e w1 ⟨rfl, rfl⟩
  go_wp2_with fail
  obtain ⟨wo, hwo⟩ : ∃ wo : World, wo = w.alloc (.cells #[.int .u32 1] 30) := ⟨_, rfl⟩
  have hV : Hid (IsN wo w.heap.size wo.heap.size (.slice (some ⟨w.heap.size, 0, none⟩) 1 1) 1 ∧ Below w.heap.size w wo) := by
    rw [hwo]
    exact ⟨lit_one w 30, (Below.refl _ _).alloc (Nat.le_refl _) _⟩
  rw [← hwo]
  clear hwo
  go_loopw [7, 8] (fun v i wr => i = .int .i64 0 ∧ v = .slice (some ⟨w.heap.size, 0, none⟩) 1 1 ∧ wr = wo) (fun _ i _ => (intOf i).toNat)
  case atStart => exact ⟨rfl, rfl, rfl⟩
  case round =>
    obtain ⟨rfl, rfl, rfl⟩ := hrel
    go_wp2
    go_ret2
    exact ⟨⟨_, rfl, hV.out.1⟩, hV.out.2⟩

set_option maxHeartbeats 1000000 in
theorem rpow_small {w : World} {va : Value} {a : List Nat} {lo hi : Nat} (n : Nat) (ha : IsL .u32 w lo hi va a) (hi1 : hi ≤ w.heap.size) (hn : 1 ≤ n) (h1 : n ≤ 10000) (hc : chk a = 0) (hv : val a ≤ 1) :
    Calls Try.prog 26 #[va, .int .i64 (n : Int)] w fun e w' => (∃ v, e = .returned (.tuple #[v, .int .i64 (fite (val a))]) ∧ IsN w' w.heap.size w'.heap.size v (fitv (val a))) ∧ Below w.heap.size w w' := by
  have Ha := Lib.hid ha
  have Han := Lib.hid (ha.isN hc)
  obtain ⟨A, c, rfl, _, _, _⟩ := ha
  have Hc := Lib.hid hc
  have hs : sgn (val a) 1 ≤ 0 := by unfold sgn; split; · omega
                                    · split <;> omega
  generalize hsg : sgn (val a) 1 = s at *
  have Hs := Lib.hid hsg
  clear hc hsg
  go_enter Try.func26, Try.ntmps26
  go_wp2_with fail
  refine (rcheck_l Ha.out).mono ?_
  rw [Hc.out]
  rintro e w1 ⟨rfl, rfl⟩
  go_wp2_with fail
  refine (rorder_n (Han.out.alloc hi1 _) (lit_one w _)).mono ?_
  rw [Hs.out]
  rintro e w1 ⟨rfl, q, rfl⟩
  go_wp2_with fail
  refine (rfits_n ((Han.out.alloc hi1 _).drewN q) (by simp; omega)).mono ?_
  rintro e w1 ⟨⟨v1, rfl, hv1⟩, hb1⟩
  go_wp2_with fail
  go_ret2
  have hb0 : Below w.heap.size w ((w.alloc (.cells #[.int .u32 1] 30)).drewN q) := below_drewN ((Below.refl _ _).alloc (Nat.le_refl _) _) q
  exact ⟨⟨_, rfl, hv1.wide hb0.size (Nat.le_refl _)⟩, below_trans' hb0 hb1⟩

set_option maxHeartbeats 1000000 in
theorem rpow_loop {w : World} {va : Value} {a : List Nat} {lo hi : Nat} (n : Nat) (ha : IsL .u32 w lo hi va a) (hi1 : hi ≤ w.heap.size) (hn : 1 ≤ n) (h1 : n ≤ 10000) (hc : chk a = 0) (hv : 1 < val a) :
    Calls Try.prog 26 #[va, .int .i64 (n : Int)] w fun e w' => (∃ v, e = .returned (.tuple #[v, .int .i64 (fite (val a ^ n))]) ∧ IsN w' w.heap.size w'.heap.size v (fitv (val a ^ n))) ∧ Below w.heap.size w w' := by
  have Ha := Lib.hid ha
  have Han := Lib.hid (ha.isN hc)
  have Hal := Lib.hid (chk_len hc)
  obtain ⟨A, c, rfl, _, _, _⟩ := ha
  have Hc := Lib.hid hc
  have Hs := Lib.hid (sgn_gt hv)
  clear hc hv
  go_enter Try.func26, Try.ntmps26
  go_wp2_with fail
  refine (rcheck_l Ha.out).mono ?_
  rw [Hc.out]
  rintro e w1 ⟨rfl, rfl⟩
  go_wp2_with fail
  refine (rorder_n (Han.out.alloc hi1 _) (lit_one w _)).mono ?_
  rw [Hs.out]
  rintro e w1 ⟨rfl, q, rfl⟩
  go_wp2_with fail
  have hb0 : Below w.heap.size w ((w.alloc (.cells #[.int .u32 1] 30)).drewN q) := below_drewN ((Below.refl _ _).alloc (Nat.le_refl _) _) q
  have hl1 := lit_one ((w.alloc (.cells #[.int .u32 1] 30)).drewN q) 30
  have hb1 := below_trans' hb0 ((Below.refl ((w.alloc (.cells #[.int .u32 1] 30)).drewN q).heap.size ((w.alloc (.cells #[.int .u32 1] 30)).drewN q)).alloc (Nat.le_refl _) (.cells #[.int .u32 1] 30))
  have hl2 := hl1.wide (lo' := w.heap.size) hb0.size (Nat.le_refl _)
  rw [show ((w.alloc (.cells #[.int .u32 1] 30)).drewN q).heap.size = w.heap.size + 1 from World.size_alloc _ _] at hl2
  have Hl1 := Lib.hid hl2
  have Hb1 := Lib.hid hb1
  clear hb0 hl1 hb1 hl2
  go_loopw [7, 8] (fun v i wr => ∃ (k : Nat), i = .int .i64 (k : Int) ∧ k ≤ n ∧ IsN wr w.heap.size wr.heap.size v (val a ^ k) ∧ Below w.heap.size w wr ∧ (lim (val a ^ k)).length ≤ 1024) (fun _ i _ => n - (intOf i).toNat)
  case atStart => exact ⟨0, rfl, by omega, by rw [Nat.pow_zero]; exact Hl1.out, Hb1.out, by rw [Nat.pow_zero, lim_one]; decide⟩
  case round =>
    clear Hl1 Hb1
    obtain ⟨k, rfl, hk, hv, hbw, hl⟩ := hrel
    have hV := Lib.hid hv
    obtain ⟨B, d, rfl, _, _, _⟩ := hv
    by_cases hkn : k < n
    · have hA2 := Lib.hid ((Han.out.below hbw hi1).wide (Nat.le_refl _) (Nat.le_trans hi1 hbw.size))
      have hm2 : Hid (val a ^ k * val a = val a ^ (k + 1)) := by rw [Hid, Nat.pow_succ]
      go_wp2_with fail
      refine (rtimes_n hV.out hA2.out (Nat.le_refl _) (Nat.le_refl _) (by omega) (by have := Hal.out; omega)).mono ?_
      rintro e w3 ⟨⟨v3, rfl, hv3⟩, hb3⟩
      rw [hm2.out] at hv3
      have hbw3 := below_trans' hbw hb3
      have hV3 := Lib.hid (hv3.wide (lo' := w.heap.size) (hbw.size) (Nat.le_refl _))
      obtain ⟨C, f, rfl, _, _, _⟩ := hv3
      by_cases hfit : (lim (val a ^ (k + 1))).length ≤ 1024
      · go_wp2
        go_roundw
        case rel => exact ⟨k + 1, by go_num, by omega, hV3.out, hbw3, hfit⟩
        case measure => simp [intOf]; omega
      · have hov := pow_over (a := val a) (p := k + 1) (n := n) (by omega) (by omega)
        have Hov := Lib.hid hov
        clear hov
        go_wp2
        go_ret2
        exact ⟨⟨.slice none 0 0, ret_v (fite_gt Hov.out).symm, by rw [fitv_gt Hov.out]; exact IsN.zero⟩, hbw3⟩
    · have Hp : Hid (k = n) := by unfold Hid; omega
      go_wp2
      go_ret2
      rw [Hp.out] at hl
      exact ⟨⟨.slice B (lim (val a ^ k)).length d, ret_v (fite_le hl).symm, by rw [fitv_le hl, ← Hp.out]; exact hV.out⟩, hbw⟩

theorem pow_small {x n : Nat} (h : x ≤ 1) (hn : 1 ≤ n) : x ^ n = x := by
  obtain ⟨m, rfl⟩ : ∃ m, n = m + 1 := ⟨n - 1, by omega⟩
  rcases x with _ | x
  · rw [Nat.pow_succ, Nat.mul_zero]
  · have : x = 0 := by omega
    subst this
    simp

set_option maxHeartbeats 1000000 in
theorem rpow_l {w : World} {va : Value} {a : List Nat} {lo hi : Nat} (n : Int) (ha : IsL .u32 w lo hi va a) (hi1 : hi ≤ w.heap.size) :
    Calls Try.prog 26 #[va, .int .i64 n] w fun e w' => (∃ v, e = .returned (.tuple #[v, .int .i64 (powe a n)]) ∧ IsN w' w.heap.size w'.heap.size v (powv a n)) ∧ Below w.heap.size w w' := by
  by_cases hc : chk a = 0
  · rcases Int.lt_or_le n 0 with hn | hn
    · rw [powv_range hc (.inl hn), powe_range hc (.inl hn)]
      have Ha := Lib.hid ha
      obtain ⟨A, c, rfl, _, _, _⟩ := ha
      have Hc := Lib.hid hc
      clear hc
      go_enter Try.func26, Try.ntmps26
      go_wp2_with fail
      refine (rcheck_l Ha.out).mono ?_
      rw [Hc.out]
      rintro e w1 ⟨rfl, rfl⟩
      go_wp2_with fail
      go_ret2
      exact ⟨⟨_, rfl, IsN.zero⟩, Below.refl _ _⟩
    · rcases Int.lt_or_le 10000 n with hn2 | hn2
      · rw [powv_range hc (.inr hn2), powe_range hc (.inr hn2)]
        have Ha := Lib.hid ha
        obtain ⟨A, c, rfl, _, _, _⟩ := ha
        have Hc := Lib.hid hc
        clear hc
        go_enter Try.func26, Try.ntmps26
        go_wp2_with fail
        refine (rcheck_l Ha.out).mono ?_
        rw [Hc.out]
        rintro e w1 ⟨rfl, rfl⟩
        go_wp2_with fail
        go_ret2
        exact ⟨⟨_, rfl, IsN.zero⟩, Below.refl _ _⟩
      · obtain ⟨m, rfl⟩ := Int.eq_ofNat_of_zero_le hn
        rw [powv_ok hc (by omega), powe_ok hc (by omega)]
        rcases Nat.eq_zero_or_pos m with h0 | h0
        · subst h0
          rw [Nat.pow_zero, fite_le (by rw [lim_one]; decide), fitv_le (by rw [lim_one]; decide)]
          exact rpow_zero ha hi1 hc
        · rcases Nat.lt_or_ge 1 (val a) with hv | hv
          · exact rpow_loop m ha hi1 h0 (by omega) hc hv
          · rw [pow_small hv h0]
            exact rpow_small m ha hi1 h0 (by omega) hc hv
  · rw [powv_bad hc, powe_bad hc]
    have Ha := Lib.hid ha
    obtain ⟨A, c, rfl, _, _, _⟩ := ha
    generalize hx : chk a = x at *
    have Hx := Lib.hid hx
    have hne : (x != 0) = true := bne_iff_ne.2 hc
    clear hc hx
    go_enter Try.func26, Try.ntmps26
    go_wp2_with fail
    refine (rcheck_l Ha.out).mono ?_
    rw [Hx.out]
    rintro e w1 ⟨rfl, rfl⟩
    go_wp2_with fail
    go_ret2
    exact ⟨⟨_, rfl, IsN.zero⟩, Below.refl _ _⟩
end Go.Proofs.Ytbeocfiimminiaa
