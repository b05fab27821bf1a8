/-
  The walk of the law NatCalls.
-/
import Derived.Test.YtbeocfiimminiaaIntB
namespace Go.Proofs.Ytbeocfiimminiaa
open Go.RowKit
set_option linter.unusedVariables false

/-- Both Of do the same. -/
theorem of_both (n : Int) (h9 : n ≤ 9223372036854775807) : ∃ (m : Nat) (c : Int),
    (∀ w : World, Calls Try.prog 8 #[.int .i64 n] w fun e w' => (∃ v, e = .returned (.tuple #[v, .int .i64 c]) ∧ IsN w' w.heap.size w'.heap.size v m) ∧ Below w.heap.size w w') ∧
    (∀ w : World, Calls Try.prog 9 #[.int .i64 n] w fun e w' => (∃ v, e = .returned (.tuple #[v, .int .i64 c]) ∧ IsN w' w.heap.size w'.heap.size v m) ∧ Below w.heap.size w w') := by
  rcases Int.lt_or_le n 0 with h | h
  · exact ⟨0, 2, fun w => (nof_neg w n h).mono fun e w' ⟨he, hw⟩ => by subst hw; exact ⟨⟨_, he, IsN.zero⟩, Below.refl _ _⟩, fun w => (rof_neg w n h).mono fun e w' ⟨he, hw⟩ => by subst hw; exact ⟨⟨_, he, IsN.zero⟩, Below.refl _ _⟩⟩
  · exact ⟨n.toNat, 0, fun w => nof_pos w n h h9, fun w => rof_pos w n h h9⟩

set_option maxRecDepth 100000 in
set_option maxHeartbeats 2000000 in
theorem law_calls {w : World} {va vb : Value} {a b : List Nat} (ha : IsL .u32 w 0 w.heap.size va a) (hb : IsL .u32 w 0 w.heap.size vb b) (n : Int) (hn : (Lit.int .i64 n).wf = true) :
    Calls Try.prog 3 #[va, vb, .int .i64 n] w fun e w' => e = .returned (.bool true) ∧ Below w.heap.size w w' := by
  have Ha := Lib.hid ha
  have Hb := Lib.hid hb
  obtain ⟨A, c, rfl, _, _, _⟩ := ha
  obtain ⟨B, d, rfl, _, _, _⟩ := hb
  have hn9 : n ≤ 9223372036854775807 := by
    rw [Lit.wf, Bool.and_eq_true, decide_eq_true_eq, decide_eq_true_eq] at hn
    exact hn.2
  have Ho := Lib.hid (of_both n hn9)
  cases h1 : lng a.length 60 with
  | true =>
    have H1 := Lib.hid h1
    clear h1
    go_enter Try.func3, Try.ntmps3
    go_wp2_with fail
    refine (long_l 60 Ha.out).mono ?_
    rw [H1.out]
    rintro e w1 ⟨rfl, rfl⟩
    go_wp2_with fail
    refine (awake_true w).mono ?_
    rintro e w1 ⟨rfl, hb⟩
    go_wp2_with fail
    go_ret
    exact ⟨rfl, hb⟩
  | false =>
    have H1 := Lib.hid h1
    clear h1
    cases h2 : lng b.length 60 with
    | true =>
      have H2 := Lib.hid h2
      clear h2
      go_enter Try.func3, Try.ntmps3
      go_wp2_with fail
      refine (long_l 60 Ha.out).mono ?_
      rw [H1.out]
      rintro e w1 ⟨rfl, rfl⟩
      go_wp2_with fail
      refine (long_l 60 Hb.out).mono ?_
      rw [H2.out]
      rintro e w1 ⟨rfl, rfl⟩
      go_wp2_with fail
      refine (awake_true w).mono ?_
      rintro e w1 ⟨rfl, hb⟩
      go_wp2_with fail
      go_ret
      exact ⟨rfl, hb⟩
    | false =>
      have H2 := Lib.hid h2
      clear h2
      go_enter Try.func3, Try.ntmps3
      go_wp2_with fail
      refine (long_l 60 Ha.out).mono ?_
      rw [H1.out]
      rintro e w1 ⟨rfl, rfl⟩
      go_wp2_with fail
      refine (long_l 60 Hb.out).mono ?_
      rw [H2.out]
      rintro e w1 ⟨rfl, rfl⟩
      go_wp2_with fail
      obtain ⟨m, oc, ho1, ho2⟩ := Ho.out
      have Ho2 := Lib.hid ho2
      clear ho2 Ho
      refine (ho1 w).mono ?_
      clear ho1
      rintro e w1 ⟨⟨v1, rfl, hv1⟩, hb1⟩
      have V1 := Lib.hid hv1
      clear hv1
      go_wp2_with fail
      refine (Ho2.out w1).mono ?_
      clear Ho2
      rintro e w2 ⟨⟨v2, rfl, hv2⟩, hb2⟩
      have V1' := Lib.hid (V1.out.next hb2)
      have V2 := Lib.hid (hv2.wide (Nat.zero_le _) (Nat.le_refl _))
      have hbw2 := Lib.hid (below_step hb1 hb2)
      clear hv2 V1 hb1 hb2
      go_wp2_with fail
      refine (alike_n V1'.out V2.out).mono ?_
      rw [decide_eq_true rfl]
      rintro e w3 ⟨rfl, q, rfl⟩
      have hbw3 := Lib.hid (below_drewN hbw2.out q)
      have Ha3 := Lib.hid (Ha.out.next hbw3.out)
      have Hb3 := Lib.hid (Hb.out.next hbw3.out)
      clear V1' V2 hbw2 Ha Hb
      go_wp2_with fail
      refine (check_l Ha3.out).mono ?_
      rintro e w4 ⟨rfl, rfl⟩
      go_wp2_with fail
      refine (rcheck_l Ha3.out).mono ?_
      rintro e w4 ⟨rfl, rfl⟩
      go_wp2_with fail
      refine (nint_l Ha3.out).mono ?_
      rintro e w4 ⟨rfl, rfl⟩
      go_wp2_with fail
      refine (rint_l Ha3.out (Nat.le_refl _)).mono ?_
      rintro e w4 ⟨rfl, hb4⟩
      have hbw4 := Lib.hid (below_step hbw3.out hb4)
      have Ha4 := Lib.hid (Ha3.out.next hb4)
      have Hb4 := Lib.hid (Hb3.out.next hb4)
      clear Ha3 Hb3 hbw3 hb4
      go_wp2_with fail
      refine (ncmp_l Ha4.out Hb4.out (Nat.le_refl _) (Nat.le_refl _)).mono ?_
      rintro e w5 ⟨rfl, hb5⟩
      have hbw5 := Lib.hid (below_step hbw4.out hb5)
      have Ha5 := Lib.hid (Ha4.out.next hb5)
      have Hb5 := Lib.hid (Hb4.out.next hb5)
      clear Ha4 Hb4 hbw4 hb5
      go_wp2_with fail
      refine (rcmp_l Ha5.out Hb5.out).mono ?_
      rintro e w6 ⟨rfl, q2, rfl⟩
      have hbw6 := Lib.hid (below_drewN hbw5.out q2)
      have Ha6 := Lib.hid (Ha5.out.drewN q2)
      clear Ha5 Hb5 hbw5
      go_wp2_with fail
      refine (ndigits_l Ha6.out).mono ?_
      rintro e w7 ⟨rfl, rfl⟩
      go_wp2_with fail
      refine (rdigits_l Ha6.out (Nat.le_refl _)).mono ?_
      rintro e w7 ⟨rfl, hb7⟩
      have hbw7 := Lib.hid (below_step hbw6.out hb7)
      clear Ha6 hbw6 hb7
      go_wp2_with fail
      refine (awake_true _).mono ?_
      rintro e w8 ⟨rfl, hb8⟩
      go_wp2_with fail
      go_ret
      exact ⟨rfl, below_step hbw7.out hb8⟩
end Go.Proofs.Ytbeocfiimminiaa
