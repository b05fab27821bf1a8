/-
  The walk of the law NatTexts.
-/
import Derived.Test.YtbeocfiimminiaaDoorParseC
namespace Go.Proofs.YtbeocfiimminiaaDoor
open Go.RowKit
set_option linter.unusedVariables false

/-- What Text returns. -/
def txs (l : List Nat) : ByteArray := if chk l = 0 then bs (txt (val l)) else ⟨#[]⟩

theorem ntext_l {w : World} {va : Value} {l : List Nat} {lo hi : Nat} (ha : IsL .u32 w lo hi va l) (hi1 : hi ≤ w.heap.size) (hD : Dig w) :
    Calls Tryd.prog 10 #[va] w fun e w' => e = .returned (.tuple #[.string (txs l), .int .i64 (chk l)]) ∧ Below w.heap.size w w' := by
  by_cases h : chk l = 0
  · have := ntext_ok (ha.isN h) hi1 (chk_len h) hD
    rw [txs, if_pos h, h]
    exact this
  · have := ntext_bad ha h
    rw [txs, if_neg h]
    exact this
theorem rtext_l {w : World} {va : Value} {l : List Nat} {lo hi : Nat} (ha : IsL .u32 w lo hi va l) (hi1 : hi ≤ w.heap.size) :
    Calls Tryd.prog 11 #[va] w fun e w' => e = .returned (.tuple #[.string (txs l), .int .i64 (chk l)]) ∧ Below w.heap.size w w' := by
  by_cases h : chk l = 0
  · have := rtext_ok (ha.isN h) hi1 (chk_len h)
    rw [txs, if_pos h, h]
    exact this
  · have := rtext_bad ha h
    rw [txs, if_neg h]
    exact this
/-- Both Parse do the same. -/
theorem parse_both (s : ByteArray) (hs : s.size ≤ 9223372036854775807) : ∃ (n : Nat) (c a : Int),
    (∀ w : World, Calls Tryd.prog 12 #[.string s] w fun e w' => (∃ v, e = .returned (.tuple #[v, .agg #[.int .i64 c, .int .i64 a]]) ∧ IsN w' w.heap.size w'.heap.size v n) ∧ Below w.heap.size w w') ∧
    (∀ w : World, Calls Tryd.prog 13 #[.string s] w fun e w' => (∃ v, e = .returned (.tuple #[v, .agg #[.int .i64 c, .int .i64 a]]) ∧ IsN w' w.heap.size w'.heap.size v n) ∧ Below w.heap.size w w') := by
  rcases parse_ways s with h | ⟨h, i, hi, hg, hb⟩ | ⟨h, hg, hc⟩ | ⟨h, hg, h0, hc⟩
  · exact ⟨0, 4, 9216, fun w => (nparse_long s h hs).mono fun e w' ⟨he, hb⟩ => ⟨⟨_, he, IsN.zero⟩, hb⟩, fun w => (rparse_long s h hs).mono fun e w' ⟨he, hb⟩ => ⟨⟨_, he, IsN.zero⟩, hb⟩⟩
  · exact ⟨0, 11, i, fun w => (nparse_byte s h i hi hg hb).mono fun e w' ⟨he, hb⟩ => ⟨⟨_, he, IsN.zero⟩, hb⟩, fun w => (rparse_byte s h i hi hg hb).mono fun e w' ⟨he, hb⟩ => ⟨⟨_, he, IsN.zero⟩, hb⟩⟩
  · exact ⟨0, 11, 0, fun w => (nparse_form s h hg hc).mono fun e w' ⟨he, hb⟩ => ⟨⟨_, he, IsN.zero⟩, hb⟩, fun w => (rparse_form s h hg hc).mono fun e w' ⟨he, hb⟩ => ⟨⟨_, he, IsN.zero⟩, hb⟩⟩
  · exact ⟨_, 0, 0, fun w => nparse_ok s h hg h0 hc, fun w => rparse_ok s h hg h0 hc⟩

theorem lng_true {n m : Nat} (h : lng n m = true) : (m < n ∧ n ≤ 1024) ∨ 1100 < n := by simpa [lng] using h

set_option maxRecDepth 100000 in
set_option maxHeartbeats 1000000 in
theorem law_texts {w : World} {va : Value} {l : List Nat} (s : ByteArray) (ha : IsL .u32 w 0 w.heap.size va l) (hs : s.size ≤ 9223372036854775807) (hD : Dig w) :
    Calls Tryd.prog 3 #[va, .string s] w fun e w' => e = .returned (.bool true) ∧ Below w.heap.size w w' := by
  have Ha := Lib.hid ha
  have HD := Lib.hid hD
  clear hD
  obtain ⟨A, c, rfl, _, _, _⟩ := ha
  have Hp := Lib.hid (parse_both s hs)
  cases hlg : lng l.length 60 with
  | true =>
    have Hlg := Lib.hid hlg
    clear hlg
    go_enter Tryd.func3, Tryd.ntmps3
    go_wp2_with fail
    refine (long_l 60 Ha.out).mono ?_
    rw [Hlg.out]
    rintro e w1 ⟨rfl, rfl⟩
    go_wp2_with fail
    refine (awake_true w).mono ?_
    rintro e w1 ⟨rfl, hb⟩
    go_wp2_with fail
    go_ret
    exact ⟨rfl, hb⟩
  | false =>
    have Hlg := Lib.hid hlg
    clear hlg
    have hcase : (600 < s.size ∧ s.size ≤ 9210) ∨ 9230 < s.size ∨ s.size ≤ 600 ∨ (9210 < s.size ∧ s.size ≤ 9230) := by omega
    rcases hcase with ⟨h1, h2⟩ | h1 | hok
    · go_enter Tryd.func3, Tryd.ntmps3
      go_wp2_with fail
      refine (long_l 60 Ha.out).mono ?_
      rw [Hlg.out]
      rintro e w1 ⟨rfl, rfl⟩
      go_wp2_with fail
      refine (awake_true w).mono ?_
      rintro e w1 ⟨rfl, hb⟩
      go_wp2_with fail
      go_ret
      exact ⟨rfl, hb⟩
    · go_enter Tryd.func3, Tryd.ntmps3
      go_wp2_with fail
      refine (long_l 60 Ha.out).mono ?_
      rw [Hlg.out]
      rintro e w1 ⟨rfl, rfl⟩
      go_wp2_with fail
      refine (awake_true w).mono ?_
      rintro e w1 ⟨rfl, hb⟩
      go_wp2_with fail
      go_ret
      exact ⟨rfl, hb⟩
    · rcases hok with h1 | ⟨h1, h2⟩
      all_goals
        go_enter Tryd.func3, Tryd.ntmps3
        go_wp2_with fail
        refine (long_l 60 Ha.out).mono ?_
        rw [Hlg.out]
        rintro e w1 ⟨rfl, rfl⟩
        go_wp2_with fail
        refine (ntext_l Ha.out (Nat.le_refl _) HD.out).mono ?_
        generalize hx : txs l = x at *
        generalize hc : chk l = q at *
        have Hx := Lib.hid hx
        have Hc := Lib.hid hc
        clear hx hc
        rintro e w1 ⟨rfl, hb1⟩
        go_wp2_with fail
        refine (rtext_l (Ha.out.next hb1) (Nat.le_refl _)).mono ?_
        rw [Hx.out, Hc.out]
        rintro e w2 ⟨rfl, hb2⟩
        go_wp2_with fail
        obtain ⟨n, pc, pa, hp1, hp2⟩ := Hp.out
        have Hp2 := Lib.hid hp2
        clear hp2
        refine (hp1 w2).mono ?_
        clear hp1
        rintro e w3 ⟨⟨v3, rfl, hv3⟩, hb3⟩
        have Hv3 := Lib.hid hv3
        clear hv3
        go_wp2_with fail
        refine (Hp2.out _).mono ?_
        rintro e w4 ⟨⟨v4, rfl, hv4⟩, hb4⟩
        have Hv4 := Lib.hid hv4
        clear hv4
        go_wp2_with fail
        have hF := two_new w3 (.int .i64 pc) (.int .i64 pa) 30
        have hf0 := (hb4.cell (p := ⟨w3.heap.size, 0, none⟩) (by show w3.heap.size < (w3.alloc _).heap.size; rw [World.size_alloc]; omega)).trans hF.1
        have hf1 := (hb4.cell (p := ⟨w3.heap.size, 1, none⟩) (by show w3.heap.size < (w3.alloc _).heap.size; rw [World.size_alloc]; omega)).trans hF.2
        have hbw : Below w.heap.size w w4 := below_step (below_stepA (below_step (below_step hb1 hb2) hb3) _) hb4
        have Hv3' := Lib.hid (((Hv3.out.more (.cells #[.int .i64 pc, .int .i64 pa] 30)).next hb4).more (.cells #[.int .i64 pc, .int .i64 pa] 30))
        have hlt : w3.heap.size < w4.heap.size := by have := hb4.size; rw [World.size_alloc] at this; omega
        clear hF hb1 hb2 hb3 hb4
        refine (alike_n Hv3'.out (Hv4.out.more _)).mono ?_
        rw [decide_eq_true rfl]
        rintro e w5 ⟨rfl, q, rfl⟩
        go_wp2_with fail
        refine (awake_true _).mono ?_
        rintro e w6 ⟨rfl, hb6⟩
        go_wp2_with fail
        go_ret
        exact ⟨rfl, below_step (below_drewN (below_stepA hbw _) q) hb6⟩
end Go.Proofs.YtbeocfiimminiaaDoor
