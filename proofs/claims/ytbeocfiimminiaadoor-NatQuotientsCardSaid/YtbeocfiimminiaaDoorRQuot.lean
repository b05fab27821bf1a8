/-
  The contracts of the reference's Common, Gcd, Lcm, Div.
-/
import Derived.Test.YtbeocfiimminiaaDoorROver
import Derived.Test.YtbeocfiimminiaaDoorRFits
import Derived.Test.YtbeocfiimminiaaDoorRBoth
import Derived.Test.YtbeocfiimminiaaDoorNGcd
namespace Go.Proofs.YtbeocfiimminiaaDoor
open Go.RowKit
set_option linter.unusedVariables false

theorem lim_pos1 {Y : Nat} (h : 0 < Y) : 1 ≤ (lim Y).length := by
  have := lim_nil_iff (n := Y)
  omega

set_option maxHeartbeats 400000 in
theorem rcommon_n {w : World} {va vb : Value} {x y : Nat} (ha : IsN w 0 w.heap.size va x) (hb : IsN w 0 w.heap.size vb y) (hx : (lim x).length ≤ 2000000000) (hy : (lim y).length ≤ 2000000000) :
    Calls Tryd.prog 42 #[va, vb] w fun e w' => (∃ v, e = .returned v ∧ IsN w' 0 w'.heap.size v (Nat.gcd x y)) ∧ Below w.heap.size w w' := by
  have Ha := Lib.hid ha
  have Hb := Lib.hid hb
  obtain ⟨A, c, rfl, _, _, _⟩ := ha
  obtain ⟨B, d, rfl, _, _, _⟩ := hb
  go_enter Tryd.func42, Tryd.ntmps42
  go_wp2_with fail
  go_loopw [0, 1] (fun v0 v1 wr => ∃ X Y : Nat, IsN wr 0 wr.heap.size v0 X ∧ IsN wr 0 wr.heap.size v1 Y ∧ Below w.heap.size w wr ∧ Hid (Nat.gcd X Y = Nat.gcd x y ∧ (lim X).length ≤ 2000000000 ∧ (lim Y).length ≤ 2000000000)) (fun _ v1 wr => numOf wr v1)
  case atStart => exact ⟨x, y, Ha.out, Hb.out, Below.refl _ _, rfl, hx, hy⟩
  case round =>
    obtain ⟨X, Y, hX, hY, hbw, hrel⟩ := hrel
    have HX := Lib.hid hX
    have HY := Lib.hid hY
    obtain ⟨A1, c1, rfl, _, _, _⟩ := hX
    obtain ⟨B1, d1, rfl, _, _, _⟩ := hY
    rcases Nat.eq_zero_or_pos Y with h0 | h0
    · have hl0 : (lim Y).length = 0 := by rw [h0, lim_zero]; rfl
      have Hg : Hid (X = Nat.gcd x y) := by
        have := hrel.out.1
        rw [h0, Nat.gcd_zero_right] at this
        exact this
      clear hrel h0
      go_wp2_with fail
      go_ret
      refine ⟨⟨_, rfl, ?_⟩, hbw⟩
      rw [← Hg.out]
      exact HX.out
    · have hl0 := lim_pos1 h0
      have H0 := Lib.hid h0
      clear h0
      go_wp2_with fail
      refine (rover_n HX.out HY.out H0.out hrel.out.2.1).mono ?_
      rintro e w1 ⟨⟨q, r, rfl, _, hr⟩, hb1⟩
      have Hr := Lib.hid hr
      have HY1 := Lib.hid (HY.out.up hb1)
      clear hr
      go_wp2_with fail
      go_roundw
      case rel =>
        refine ⟨Y, X % Y, HY1.out, Hr.out, below_two hbw hb1, ?_, hrel.out.2.2, Nat.le_trans (lim_len_mono (Nat.le_of_lt (Nat.mod_lt _ H0.out))) hrel.out.2.2⟩
        rw [← hrel.out.1, Nat.gcd_comm X Y, Nat.gcd_rec Y X, Nat.gcd_comm]
      case measure =>
        show numOf w1 r < numOf wr (.slice B1 (lim Y).length d1)
        rw [numOf_eq Hr.out, numOf_eq HY.out]
        exact Nat.mod_lt _ H0.out

set_option maxHeartbeats 400000 in
theorem rgcd_l {w : World} {va vb : Value} {a b : List Nat} (ha : IsL .u32 w 0 w.heap.size va a) (hb : IsL .u32 w 0 w.heap.size vb b) :
    Calls Tryd.prog 21 #[va, vb] w fun e w' => (∃ v, e = .returned (.tuple #[v, .int .i64 (fst2 (chk a) (chk b))]) ∧ IsN w' 0 w'.heap.size v (gcd2 a b)) ∧ Below w.heap.size w w' := by
  have Ha := Lib.hid ha
  have Hb := Lib.hid hb
  obtain ⟨A, c, rfl, _, _, _⟩ := ha
  obtain ⟨B, d, rfl, _, _, _⟩ := hb
  by_cases h : fst2 (chk a) (chk b) = 0
  · obtain ⟨h1, h2⟩ := fst2_zero h
    have Hh := Lib.hid h
    have H1 := Lib.hid h1
    have H2 := Lib.hid h2
    have HL1 : Hid ((lim (val a)).length ≤ 1024) := chk_len h1
    have HL2 : Hid ((lim (val b)).length ≤ 1024) := chk_len h2
    rw [show gcd2 a b = Nat.gcd (val a) (val b) from by unfold gcd2; rw [if_pos h], h]
    clear h h1 h2
    go_enter Tryd.func21, Tryd.ntmps21
    go_wp2_with fail
    refine (rboth_l Ha.out Hb.out).mono ?_
    rw [Hh.out]
    rintro e w1 ⟨rfl, rfl⟩
    go_wp2_with fail
    refine (rcommon_n (Ha.out.isN H1.out) (Hb.out.isN H2.out) (Nat.le_trans HL1.out (by omega)) (Nat.le_trans HL2.out (by omega))).mono ?_
    rintro e w1 ⟨⟨v1, rfl, hv1⟩, hb1⟩
    go_wp2_with fail
    refine (rfits_n hv1 (Nat.le_refl _)).mono ?_
    rw [fitv_le (gcd_len HL1.out HL2.out), fite_le (gcd_len HL1.out HL2.out)]
    rintro e w2 ⟨⟨v2, rfl, hv2⟩, hb2⟩
    go_wp2_with fail
    go_ret2
    exact ⟨⟨_, rfl, hv2.wide (Nat.zero_le _) (Nat.le_refl _)⟩, below_trans' hb1 hb2⟩
  · rw [show gcd2 a b = 0 from by unfold gcd2; rw [if_neg h]]
    generalize hx : fst2 (chk a) (chk b) = x at *
    have Hx := Lib.hid hx
    have hne : (x != 0) = true := bne_iff_ne.2 h
    clear h hx
    go_enter Tryd.func21, Tryd.ntmps21
    go_wp2_with fail
    refine (rboth_l Ha.out Hb.out).mono ?_
    rw [Hx.out]
    rintro e w1 ⟨rfl, rfl⟩
    go_wp2_with fail
    go_ret2
    exact ⟨⟨_, rfl, IsN.zero⟩, Below.refl _ _⟩

set_option maxHeartbeats 1000000 in
theorem rlcm_l {w : World} {va vb : Value} {a b : List Nat} (ha : IsL .u32 w 0 w.heap.size va a) (hb : IsL .u32 w 0 w.heap.size vb b) :
    Calls Tryd.prog 23 #[va, vb] w fun e w' => (∃ v, e = .returned (.tuple #[v, .int .i64 (op2e a b (lcmN (val a) (val b)))]) ∧ IsN w' 0 w'.heap.size v (op2 a b (lcmN (val a) (val b)))) ∧ Below w.heap.size w w' := by
  have Ha := Lib.hid ha
  have Hb := Lib.hid hb
  obtain ⟨A, c, rfl, _, _, _⟩ := ha
  obtain ⟨B, d, rfl, _, _, _⟩ := hb
  by_cases h : fst2 (chk a) (chk b) = 0
  · obtain ⟨h1, h2⟩ := fst2_zero h
    rw [show op2e a b (lcmN (val a) (val b)) = fite (lcmN (val a) (val b)) from by unfold op2e; rw [if_pos h], show op2 a b (lcmN (val a) (val b)) = fitv (lcmN (val a) (val b)) from by unfold op2; rw [if_pos h]]
    have Hh := Lib.hid h
    have H1 := Lib.hid h1
    have H2 := Lib.hid h2
    have HL1 : Hid ((lim (val a)).length ≤ 1024) := chk_len h1
    have HL2 : Hid ((lim (val b)).length ≤ 1024) := chk_len h2
    have ea := Lib.hid (chk_ok h1).2.2
    have hza : a.length = 0 → val a = 0 := fun h => by rw [List.eq_nil_of_length_eq_zero h]; rfl
    have hzb : b.length = 0 → val b = 0 := fun h => by rw [List.eq_nil_of_length_eq_zero h]; rfl
    have Hza := Lib.hid hza
    have Hzb := Lib.hid hzb
    clear h h1 h2 hza hzb
    rcases Nat.eq_zero_or_pos a.length with ha0 | ha0
    · have hz : Hid (lcmN (val a) (val b) = 0) := lcmN_zero (.inl (Hza.out ha0))
      rw [hz.out, fite_le (by rw [lim_zero]; decide), fitv_le (by rw [lim_zero]; decide)]
      have hb0 : ((a.length : Int) == 0) = true := by rw [ha0]; rfl
      clear ha0
      go_enter Tryd.func23, Tryd.ntmps23
      go_wp2_with fail
      refine (rboth_l Ha.out Hb.out).mono ?_
      rw [Hh.out]
      rintro e w1 ⟨rfl, rfl⟩
      go_wp2_with fail
      go_ret2
      exact ⟨⟨_, rfl, IsN.zero⟩, Below.refl _ _⟩
    · have hn0 : ((a.length : Int) == 0) = false := beq_eq_false_iff_ne.2 (by omega)
      rcases Nat.eq_zero_or_pos b.length with hb0 | hb0
      · have hz : Hid (lcmN (val a) (val b) = 0) := lcmN_zero (.inr (Hzb.out hb0))
        rw [hz.out, fite_le (by rw [lim_zero]; decide), fitv_le (by rw [lim_zero]; decide)]
        have hb1 : ((b.length : Int) == 0) = true := by rw [hb0]; rfl
        clear hb0
        go_enter Tryd.func23, Tryd.ntmps23
        go_wp2_with fail
        refine (rboth_l Ha.out Hb.out).mono ?_
        rw [Hh.out]
        rintro e w1 ⟨rfl, rfl⟩
        go_wp2_with fail
        go_ret2
        exact ⟨⟨_, rfl, IsN.zero⟩, Below.refl _ _⟩
      · have hn1 : ((b.length : Int) == 0) = false := beq_eq_false_iff_ne.2 (by omega)
        have hgp : 0 < Nat.gcd (val a) (val b) := by
          apply Nat.gcd_pos_of_pos_left
          rcases Nat.eq_zero_or_pos (val a) with h | h
          · have := ea.out
            rw [h, lim_zero] at this
            rw [this] at ha0
            simp at ha0
          · exact h
        have Hgp := Lib.hid hgp
        have hqb : Hid ((lim (val a / Nat.gcd (val a) (val b))).length ≤ 1024) := Nat.le_trans (lim_len_mono (Nat.div_le_self _ _)) HL1.out
        clear hgp
        go_enter Tryd.func23, Tryd.ntmps23
        go_wp2_with fail
        refine (rboth_l Ha.out Hb.out).mono ?_
        rw [Hh.out]
        rintro e w1 ⟨rfl, rfl⟩
        go_wp2_with fail
        refine (rcommon_n (Ha.out.isN H1.out) (Hb.out.isN H2.out) (Nat.le_trans HL1.out (by omega)) (Nat.le_trans HL2.out (by omega))).mono ?_
        rintro e w2 ⟨⟨v, rfl, hv⟩, hb1⟩
        have HA2 := Lib.hid ((Ha.out.isN H1.out).up hb1)
        have HB2 := Lib.hid ((Hb.out.isN H2.out).up hb1)
        have Hv := Lib.hid hv
        have Hb2 := Lib.hid hb1
        clear hv hb1
        go_wp2_with fail
        refine (rover_n HA2.out Hv.out Hgp.out (Nat.le_trans HL1.out (by omega))).mono ?_
        rintro e w3 ⟨⟨vq, vr, rfl, hq, _⟩, hb3⟩
        have Hq := Lib.hid hq
        have HB3 := Lib.hid (HB2.out.up hb3)
        have Hb3 := Lib.hid (below_two Hb2.out hb3)
        clear hq hb3
        go_wp2_with fail
        refine (rtimes_n Hq.out HB3.out (Nat.le_refl _) (Nat.le_refl _) (by have := hqb.out; omega) (by have := HL2.out; omega)).mono ?_
        rintro e w4 ⟨⟨vm, rfl, hm⟩, hb4⟩
        have Hb4 := Lib.hid (below_two Hb3.out hb4)
        go_wp2_with fail
        refine (rfits_n hm (Nat.le_refl _)).mono ?_
        rintro e w5 ⟨⟨v5, rfl, hv5⟩, hb5⟩
        go_wp2_with fail
        go_ret2
        exact ⟨⟨_, rfl, hv5.wide (Nat.zero_le _) (Nat.le_refl _)⟩, below_two Hb4.out hb5⟩
  · have Hr : Hid (op2 a b (lcmN (val a) (val b)) = 0) := by unfold Hid op2; rw [if_neg h]
    have He : Hid (op2e a b (lcmN (val a) (val b)) = fst2 (chk a) (chk b)) := by unfold Hid op2e; rw [if_neg h]
    rw [Hr.out, He.out]
    clear Hr He
    generalize hx : fst2 (chk a) (chk b) = x at *
    have Hx := Lib.hid hx
    have hne : (x != 0) = true := bne_iff_ne.2 h
    clear h hx
    go_enter Tryd.func23, Tryd.ntmps23
    go_wp2_with fail
    refine (rboth_l Ha.out Hb.out).mono ?_
    rw [Hx.out]
    rintro e w1 ⟨rfl, rfl⟩
    go_wp2_with fail
    go_ret2
    exact ⟨⟨_, rfl, IsN.zero⟩, Below.refl _ _⟩

set_option maxHeartbeats 1000000 in
theorem rdiv_l {w : World} {va vb : Value} {a b : List Nat} (ha : IsL .u32 w 0 w.heap.size va a) (hb : IsL .u32 w 0 w.heap.size vb b) :
    Calls Tryd.prog 19 #[va, vb] w fun e w' => (∃ q r, e = .returned (.tuple #[q, r, .int .i64 (div2e a b)]) ∧ IsN w' 0 w'.heap.size q (div2q a b) ∧ IsN w' 0 w'.heap.size r (div2r a b)) ∧ Below w.heap.size w w' := by
  have Ha := Lib.hid ha
  have Hb := Lib.hid hb
  obtain ⟨A, c, rfl, _, _, _⟩ := ha
  obtain ⟨B, d, rfl, _, _, _⟩ := hb
  by_cases h : fst2 (chk a) (chk b) = 0
  · obtain ⟨h1, h2⟩ := fst2_zero h
    have Hh := Lib.hid h
    have H1 := Lib.hid h1
    have H2 := Lib.hid h2
    have HL1 : Hid ((lim (val a)).length ≤ 1024) := chk_len h1
    have HL2 : Hid ((lim (val b)).length ≤ 1024) := chk_len h2
    have eb := Lib.hid (chk_ok h2).2.2
    rcases Nat.eq_zero_or_pos b.length with hb0 | hb0
    · have hz : val b = 0 := by rw [List.eq_nil_of_length_eq_zero hb0]; rfl
      rw [div2e, div2q, div2r, if_pos h, if_pos h, if_pos h, if_pos hz, if_pos hz, hz, Nat.div_zero]
      have hb1 : ((b.length : Int) == 0) = true := by rw [hb0]; rfl
      clear hb0 h h1 h2 hz
      go_enter Tryd.func19, Tryd.ntmps19
      go_wp2_with fail
      refine (rboth_l Ha.out Hb.out).mono ?_
      rw [Hh.out]
      rintro e w1 ⟨rfl, rfl⟩
      go_wp2_with fail
      go_ret3
      exact ⟨⟨_, _, rfl, IsN.zero, IsN.zero⟩, Below.refl _ _⟩
    · have hn1 : ((b.length : Int) == 0) = false := beq_eq_false_iff_ne.2 (by omega)
      have hz : ¬ val b = 0 := by
        intro h
        have := eb.out
        rw [h, lim_zero] at this
        rw [this] at hb0
        simp at hb0
      rw [div2e, div2q, div2r, if_pos h, if_pos h, if_pos h, if_neg hz, if_neg hz]
      have Hgp : Hid (0 < val b) := Nat.pos_of_ne_zero hz
      have hr9 : Hid ((lim (val a % val b)).length ≤ 1024) := Nat.le_trans (lim_len_mono (Nat.mod_le _ _)) HL1.out
      clear h h1 h2 hz
      go_enter Tryd.func19, Tryd.ntmps19
      go_wp2_with fail
      refine (rboth_l Ha.out Hb.out).mono ?_
      rw [Hh.out]
      rintro e w1 ⟨rfl, rfl⟩
      go_wp2_with fail
      refine (rover_n (Ha.out.isN H1.out) (Hb.out.isN H2.out) Hgp.out (Nat.le_trans HL1.out (by omega))).mono ?_
      rintro e w3 ⟨⟨vq, vr, rfl, hq, hr⟩, hb3⟩
      have Hq := Lib.hid hq
      have Hr := Lib.hid hr
      obtain ⟨R, cR, rfl, _, _, hRs⟩ := hr
      have HRs := Lib.hid hRs
      have hr9' := hr9.out
      clear hq hRs
      go_wp2_with (at_builtin; refine wp_appN elN rfl _ _ rfl rfl (own_empty w3 34 34) rfl (cel_length _ _) (HRs.out.alloc (Nat.le_refl _) _) (cel_one _ _) (by simp only [List.length_nil]; omega) (by simp) ?_; intro v1 w4 hown4 hb4 hz4)
      go_ret3
      have hv1 : IsN w4 0 w4.heap.size v1 (val a % val b) := (Own.isL (by simpa using hown4)).wide (Nat.zero_le _) (Nat.le_refl _)
      have hb34 : Below w3.heap.size w3 w4 := ((Below.refl _ w3).alloc (Nat.le_refl _) _).trans hb4
      exact ⟨⟨_, _, rfl, Hq.out.up hb34, hv1⟩, below_two hb3 hb34⟩
  · rw [div2e, div2q, div2r, if_neg h, if_neg h, if_neg h]
    generalize hx : fst2 (chk a) (chk b) = x at *
    have Hx := Lib.hid hx
    have hne : (x != 0) = true := bne_iff_ne.2 h
    clear h hx
    go_enter Tryd.func19, Tryd.ntmps19
    go_wp2_with fail
    refine (rboth_l Ha.out Hb.out).mono ?_
    rw [Hx.out]
    rintro e w1 ⟨rfl, rfl⟩
    go_wp2_with fail
    go_ret3
    exact ⟨⟨_, _, rfl, IsN.zero, IsN.zero⟩, Below.refl _ _⟩
end Go.Proofs.YtbeocfiimminiaaDoor
