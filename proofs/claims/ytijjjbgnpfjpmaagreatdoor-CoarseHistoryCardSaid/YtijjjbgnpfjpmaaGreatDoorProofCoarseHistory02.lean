/-
  The contracts of package exact's divide, quotient, common, shared, signed, at numbers of one word.
-/
import Derived.Test.YtijjjbgnpfjpmaaGreatDoorProofCoarseHistory01
import Derived.Test.YtijjjbgnpfjpmaaGreatDoorCoh02
import Derived.Test.YtijjjbgnpfjpmaaGreatDoorCoh04
import Derived.Lib.SliceRun
namespace Go.Proofs.YtijjjbgnpfjpmaaGreatDoor
open Go.RowKit
set_option linter.unusedVariables false
def S64 (n : Nat) : Prop := n < 18446744073709551616
theorem S64.len {n : Nat} (h : S64 n) : (wd n).length ≤ 1 := wd_len_le.2 (by rw [pq_one]; exact h)
theorem S64.len1 {n : Nat} (h : S64 n) (h0 : n ≠ 0) : (wd n).length = 1 := by rw [zeo h h0]; rfl
theorem S64.le {m n : Nat} (h : S64 n) (hm : m ≤ n) : S64 m := Nat.lt_of_le_of_lt hm h
theorem isW_row {w : World} {g n : Nat} (hr : Row w g 212 [.int .u64 (n : Int)]) (h : S64 n) (h0 : n ≠ 0) : IsW w (.slice (some ⟨g, 0, none⟩) 1 1) n := by
  refine isW_in (l := [n]) hr ?_
  rw [zeo h h0]
  exact ⟨some ⟨g, 0, none⟩, 1, rfl, Nat.le_refl _, by unfold maxLen; omega, Row.sv hr⟩
theorem isW_box (w : World) {n : Nat} (h : S64 n) (h0 : n ≠ 0) : IsW (w.alloc (.cells #[.int .u64 (n : Int)] 212)) (.slice (some ⟨w.heap.size, 0, none⟩) 1 1) n :=
  isW_row (heap_alloc_new w _) h h0
theorem isW_cell {w : World} {A : Option Addr} {c k n : Nat} (h : IsW w (.slice A k c) n) (hs : S64 n) (h0 : n ≠ 0) : ∃ b o, A = some ⟨b, o, none⟩ ∧ k = 1 ∧ w.cell? ⟨b, o, none⟩ = some (.int .u64 (n : Int)) := by
  obtain ⟨A', c', hv, _, _, hs'⟩ := h.1
  simp only [Value.slice.injEq] at hv
  obtain ⟨rfl, rfl, rfl⟩ := hv
  rw [zeo hs h0] at hs' ⊢
  obtain ⟨b, o, rfl, _, _, hc⟩ := hs' (by simp [cel])
  exact ⟨b, o, rfl, rfl, hc 0 _ rfl⟩
def RetW2 (w : World) (m n : Nat) (e : Ending) (w' : World) : Prop := (∃ u v, e = .returned (.tuple #[u, v]) ∧ IsW w' u m ∧ IsW w' v n) ∧ Below w.heap.size w w'
set_option maxHeartbeats 1000000 in
theorem divide_s {w : World} {va vb : Value} {x y q r : Nat} (ha : IsW w va x) (hb : IsW w vb y) (hx : S64 x) (hy : S64 y) (hy0 : y ≠ 0) (hq : q = x / y) (hr : r = x % y) :
    Calls Tryz.prog 234 #[va, vb] w (RetW2 w q r) := by
  have Ha := Lib.hid ha
  have Hb := Lib.hid hb
  obtain ⟨A, c, rfl, _, _, _⟩ := ha.1
  obtain ⟨B, d, rfl, _, _, _⟩ := hb.1
  have Hq := Lib.hid hq
  have Hr := Lib.hid hr
  have Hy := Lib.hid (show S64 y ∧ y ≠ 0 from ⟨hy, hy0⟩)
  have Hx := Lib.hid hx
  rcases Nat.lt_or_ge x y with h | h
  · have HS := Lib.hid (zdl h)
    have Hh := Lib.hid h
    clear hq hr hy hy0 hx h
    go_enter Tryz.func234, Tryz.ntmps234
    go_wp2_with fail
    refine (zbu Ha.out Hb.out (-1) HS.out.symm).mono ?_
    rintro e w1 ⟨rfl, ⟨nd, rfl⟩⟩
    go_wp2_with fail
    go_ret2
    refine ⟨⟨_, _, rfl, ?_, ?_⟩, below_drewN (Below.refl _ _) nd⟩
    · rw [Hq.out, Nat.div_eq_of_lt Hh.out]; exact IsW.zero
    · rw [Hr.out, Nat.mod_eq_of_lt Hh.out]; exact Ha.out.drewN nd
  · obtain ⟨s, hs⟩ : ∃ s, s = sgn x y := ⟨_, rfl⟩
    have hs0 : 0 ≤ s := by
      rw [hs]; unfold sgn
      rw [if_neg (by omega)]
      split <;> omega
    have HS := Lib.hid hs
    obtain ⟨b, o, rfl, hl, hc⟩ := isW_cell Hb.out hy hy0
    rw [hl] at Hb
    rw [hl]
    clear hq hr hy hy0 hx h hs hl
    go_enter Tryz.func234, Tryz.ntmps234
    go_wp2_with fail
    refine (zbu Ha.out Hb.out s HS.out).mono ?_
    rintro e w1 ⟨rfl, ⟨nd, rfl⟩⟩
    go_wp2_with fail
    refine (zdw (Ha.out.drewN nd) Hx.out Hy.out.2 Hy.out.1).mono ?_
    rintro e w2 ⟨⟨v, rfl, hv⟩, hb2⟩
    have Hv := Lib.hid hv
    clear hv
    go_wp2_with fail
    obtain ⟨w3, hw3⟩ : ∃ w3, w3 = w2.alloc (.cells #[.int .u64 ((x % y : Nat) : Int)] 212) := ⟨_, rfl⟩
    have hr3 : Row w3 w2.heap.size 212 (cel .u64 [x % y]) := by rw [hw3]; exact heap_alloc_new w2 _
    have hb3 : Below w2.heap.size w2 w3 := by rw [hw3]; exact zaq _ _
    have hlt : x % y < y := Nat.mod_lt _ (Nat.pos_of_ne_zero Hy.out.2)
    have ht := zen (l := [x % y]) (by intro z hz; simp at hz; subst hz; have := Hy.out.1; unfold S64 at this; omega) (by simp [maxLen]) hr3
    rw [hw3] at ht
    refine ht.mono ?_
    rw [← hw3]
    rintro e w4 ⟨⟨u, rfl, hu⟩, rfl⟩
    have hu2 : IsW w3 u r := by
      have e1 : vw [x % y] = x % y := by simp [vw]
      rw [e1, ← Hr.out] at hu
      exact hu
    have hv2 : IsW w3 v q := by rw [Hq.out]; exact Hv.out.next hb3
    have hbb : Below w.heap.size w w3 := zaa (zef hb2) hb3
    have HW3 := Lib.hid hw3
    clear hr3 hb3 ht hu hw3
    go_wp2_with fail
    go_ret2
    obtain rfl := HW3.out
    exact ⟨⟨_, _, rfl, hv2, hu2⟩, hbb⟩
set_option maxHeartbeats 400000 in
theorem zbe {w : World} {va vb : Value} {x y q : Nat} (ha : IsW w va x) (hb : IsW w vb y) (hx : S64 x) (hy : S64 y) (hy0 : y ≠ 0) (hq : q = x / y) :
    Calls Tryz.prog 207 #[va, vb] w (RetW w q) := by
  have Ha := Lib.hid ha
  have Hb := Lib.hid hb
  obtain ⟨A, c, rfl, _, _, _⟩ := ha.1
  obtain ⟨B, d, rfl, _, _, _⟩ := hb.1
  have Hq := Lib.hid hq
  have Hy := Lib.hid (show S64 y ∧ y ≠ 0 from ⟨hy, hy0⟩)
  have Hx := Lib.hid hx
  by_cases h1 : y = 1
  · have H1 := Lib.hid h1
    clear hq hy hy0 hx h1
    go_enter Tryz.func207, Tryz.ntmps207
    go_wp2_with fail
    refine (zbw Hb.out true (by rw [H1.out]; rfl)).mono ?_
    rintro e w1 ⟨rfl, rfl⟩
    go_wp2_with fail
    go_ret
    exact ⟨⟨_, rfl, by rw [Hq.out, H1.out, Nat.div_one]; exact Ha.out⟩, Below.refl _ _⟩
  · have H1 := Lib.hid h1
    clear hq hy hy0 hx h1
    go_enter Tryz.func207, Tryz.ntmps207
    go_wp2_with fail
    refine (zbw Hb.out false (by simp [H1.out])).mono ?_
    rintro e w1 ⟨rfl, rfl⟩
    go_wp2_with fail
    refine (divide_s Ha.out Hb.out Hx.out Hy.out.1 Hy.out.2 Hq.out rfl).mono ?_
    rintro e w2 ⟨⟨u, v, rfl, hu, hv⟩, hb2⟩
    go_wp2_with fail
    go_ret
    exact ⟨⟨_, rfl, hu⟩, hb2⟩
set_option maxRecDepth 100000 in
set_option maxHeartbeats 1000000 in
theorem common_ge {w : World} {va vb : Value} {x y z : Nat} (ha : IsW w va x) (hb : IsW w vb y) (hx : S64 x) (hy : S64 y) (hz : z = Nat.gcd x y) (h : y ≤ x) :
    Calls Tryz.prog 205 #[va, vb] w (RetW w z) := by
  have Ha := Lib.hid ha
  have Hb := Lib.hid hb
  obtain ⟨A, c, rfl, _, _, _⟩ := ha.1
  obtain ⟨B, d, rfl, _, _, _⟩ := hb.1
  have Hz : Hid (z = Nat.gcd x y) := by rw [Hid, hz]
  have Hx := Lib.hid hx
  have Hy := Lib.hid hy
  obtain ⟨s, hs⟩ : ∃ s, s = sgn x y := ⟨_, rfl⟩
  have hs0 : 0 ≤ s := by
    rw [hs]; unfold sgn
    rw [if_neg (by omega)]
    split <;> omega
  have HS := Lib.hid hs
  have hl : (wd y).length ≤ 1 := Hy.out.len
  have hlt : ((((wd y).length : Int)) > 1) = False := by simp; omega
  clear hz hx hy hs h
  go_enter Tryz.func205, Tryz.ntmps205
  go_wp2_with fail
  refine (zbu Ha.out Hb.out s HS.out).mono ?_
  rintro e w1 ⟨rfl, ⟨nd, rfl⟩⟩
  go_wp2_with fail
  go_loop [0, 1] (fun a b => a = .slice A (wd x).length c ∧ b = .slice B (wd y).length d) (fun _ _ => 0)
  case atStart => exact ⟨rfl, rfl⟩
  case round =>
    obtain ⟨rfl, rfl⟩ := hrel
    by_cases h0 : y = 0
    · have e0 : (((wd y).length : Int) == 0) = true := by rw [wd_nil_iff.2 h0]; rfl
      have H0 := Lib.hid h0
      clear h0
      go_wp2_with fail
      go_ret
      exact ⟨⟨_, rfl, by rw [Hz.out, H0.out, Nat.gcd_zero_right]; exact Ha.out.drewN nd⟩, below_drewN (Below.refl _ _) nd⟩
    · have e0 : (((wd y).length : Int) == 0) = false := by rw [Hy.out.len1 h0]; rfl
      obtain ⟨b, o, rfl, hk, hc⟩ := isW_cell Hb.out Hy.out h0
      have hlp : 1 ≤ (wd y).length := by omega
      have H0 := Lib.hid h0
      clear h0 hk
      go_wp2_with fail
      refine (zdw (Ha.out.drewN nd) Hx.out H0.out Hy.out).mono ?_
      rintro e w2 ⟨⟨v, rfl, hv⟩, hb2⟩
      have HB2 := Lib.hid (zef hb2)
      clear hv hb2 hc
      go_wp2_with fail
      go_loopw [12, 14] (fun g r wr => ∃ G R : Nat, g = .int .u64 (G : Int) ∧ r = .int .u64 (R : Int) ∧ 1 ≤ G ∧ G ≤ 18446744073709551615 ∧ R ≤ 18446744073709551615 ∧ Below w.heap.size w wr ∧ Hid (Nat.gcd G R = z)) (fun _ r _ => (intOf r).toNat)
      case atStart =>
        refine ⟨y, x % y, rfl, rfl, Nat.pos_of_ne_zero H0.out, by have := Hy.out; unfold S64 at this; omega, ?_, HB2.out, ?_⟩
        · have h1 := Nat.mod_le x y
          have := Hx.out
          unfold S64 at this
          omega
        · rw [Hid, Hz.out, Nat.gcd_comm, ← Nat.gcd_rec, Nat.gcd_comm]
      case round =>
        obtain ⟨G, R, rfl, rfl, hG0, hG1, hR1, hbw, hg⟩ := hrel
        rcases R with _ | R
        · have hg' : Hid (G = z) := by have := hg.out; rwa [Nat.gcd_zero_right] at this
          go_wp2_with fail
          go_ret
          refine ⟨⟨_, rfl, ?_⟩, hbw.alloc hbw.size _⟩
          rw [← hg'.out]
          exact isW_box _ (by unfold S64; omega) (by omega)
        · have hne : (((R + 1 : Nat) : Int) == 0) = false := beq_eq_false_iff_ne.2 (by omega)
          have hne2 : (((R + 1 : Nat) : Int) != 0) = true := bne_iff_ne.2 (by omega)
          have hnz : ¬ (((R + 1 : Nat) : Int)) = 0 := by omega
          obtain ⟨T, hT⟩ : ∃ T, T = R + 1 := ⟨_, rfl⟩
          have hm : Hid (G % T < T ∧ Nat.gcd T (G % T) = z) := by
            refine ⟨Nat.mod_lt _ (by omega), ?_⟩
            rw [← hg.out, ← hT, Nat.gcd_comm G T, Nat.gcd_comm T (G % T), ← Nat.gcd_rec]
          rw [← hT] at hne hne2 hnz hR1 ⊢
          have hT1 : 1 ≤ T := by omega
          clear hg hT
          go_wp2_with fail
          go_quiet (fail)
          go_wp2_with fail
          go_roundw
          case rel =>
            refine ⟨T, G % T, rfl, by go_num, hT1, hR1, ?_, ?_, hm.out.2⟩
            · have := hm.out.1; omega
            · exact below_drewN hbw _
          case measure =>
            have := hm.out.1
            simp [intOf]; omega
set_option maxRecDepth 100000 in
set_option maxHeartbeats 1000000 in
theorem common_lt {w : World} {va vb : Value} {x y z : Nat} (ha : IsW w va x) (hb : IsW w vb y) (hx : S64 x) (hy : S64 y) (hz : z = Nat.gcd x y) (h : x < y) :
    Calls Tryz.prog 205 #[va, vb] w (RetW w z) := by
  have Ha := Lib.hid ha
  have Hb := Lib.hid hb
  obtain ⟨A, c, rfl, _, _, _⟩ := ha.1
  obtain ⟨B, d, rfl, _, _, _⟩ := hb.1
  have Hz : Hid (z = Nat.gcd y x) := by rw [Hid, hz]; exact Nat.gcd_comm x y
  have Hx := Lib.hid hx
  have Hy := Lib.hid hy
  obtain ⟨s, hs⟩ : ∃ s, s = sgn x y := ⟨_, rfl⟩
  have hs0 : s < 0 := by
    rw [hs]; unfold sgn
    rw [if_pos h]; decide
  have HS := Lib.hid hs
  have hl : (wd x).length ≤ 1 := Hx.out.len
  have hlt : ((((wd x).length : Int)) > 1) = False := by simp; omega
  clear hz hx hy hs h
  go_enter Tryz.func205, Tryz.ntmps205
  go_wp2_with fail
  refine (zbu Ha.out Hb.out s HS.out).mono ?_
  rintro e w1 ⟨rfl, ⟨nd, rfl⟩⟩
  go_wp2_with fail
  go_loop [0, 1] (fun a b => a = .slice B (wd y).length d ∧ b = .slice A (wd x).length c) (fun _ _ => 0)
  case atStart => exact ⟨rfl, rfl⟩
  case round =>
    obtain ⟨rfl, rfl⟩ := hrel
    by_cases h0 : x = 0
    · have e0 : (((wd x).length : Int) == 0) = true := by rw [wd_nil_iff.2 h0]; rfl
      have H0 := Lib.hid h0
      clear h0
      go_wp2_with fail
      go_ret
      exact ⟨⟨_, rfl, by rw [Hz.out, H0.out, Nat.gcd_zero_right]; exact Hb.out.drewN nd⟩, below_drewN (Below.refl _ _) nd⟩
    · have e0 : (((wd x).length : Int) == 0) = false := by rw [Hx.out.len1 h0]; rfl
      obtain ⟨b, o, rfl, hk, hc⟩ := isW_cell Ha.out Hx.out h0
      have hlp : 1 ≤ (wd x).length := by omega
      have H0 := Lib.hid h0
      clear h0 hk
      go_wp2_with fail
      refine (zdw (Hb.out.drewN nd) Hy.out H0.out Hx.out).mono ?_
      rintro e w2 ⟨⟨v, rfl, hv⟩, hb2⟩
      have HB2 := Lib.hid (zef hb2)
      clear hv hb2 hc
      go_wp2_with fail
      go_loopw [12, 14] (fun g r wr => ∃ G R : Nat, g = .int .u64 (G : Int) ∧ r = .int .u64 (R : Int) ∧ 1 ≤ G ∧ G ≤ 18446744073709551615 ∧ R ≤ 18446744073709551615 ∧ Below w.heap.size w wr ∧ Hid (Nat.gcd G R = z)) (fun _ r _ => (intOf r).toNat)
      case atStart =>
        refine ⟨x, y % x, rfl, rfl, Nat.pos_of_ne_zero H0.out, by have := Hx.out; unfold S64 at this; omega, ?_, HB2.out, ?_⟩
        · have h1 := Nat.mod_le y x
          have := Hy.out
          unfold S64 at this
          omega
        · rw [Hid, Hz.out, Nat.gcd_comm, ← Nat.gcd_rec, Nat.gcd_comm]
      case round =>
        obtain ⟨G, R, rfl, rfl, hG0, hG1, hR1, hbw, hg⟩ := hrel
        rcases R with _ | R
        · have hg' : Hid (G = z) := by have := hg.out; rwa [Nat.gcd_zero_right] at this
          go_wp2_with fail
          go_ret
          refine ⟨⟨_, rfl, ?_⟩, hbw.alloc hbw.size _⟩
          rw [← hg'.out]
          exact isW_box _ (by unfold S64; omega) (by omega)
        · have hne : (((R + 1 : Nat) : Int) == 0) = false := beq_eq_false_iff_ne.2 (by omega)
          have hne2 : (((R + 1 : Nat) : Int) != 0) = true := bne_iff_ne.2 (by omega)
          have hnz : ¬ (((R + 1 : Nat) : Int)) = 0 := by omega
          obtain ⟨T, hT⟩ : ∃ T, T = R + 1 := ⟨_, rfl⟩
          have hm : Hid (G % T < T ∧ Nat.gcd T (G % T) = z) := by
            refine ⟨Nat.mod_lt _ (by omega), ?_⟩
            rw [← hg.out, ← hT, Nat.gcd_comm G T, Nat.gcd_comm T (G % T), ← Nat.gcd_rec]
          rw [← hT] at hne hne2 hnz hR1 ⊢
          have hT1 : 1 ≤ T := by omega
          clear hg hT
          go_wp2_with fail
          go_quiet (fail)
          go_wp2_with fail
          go_roundw
          case rel =>
            refine ⟨T, G % T, rfl, by go_num, hT1, hR1, ?_, ?_, hm.out.2⟩
            · have := hm.out.1; omega
            · exact below_drewN hbw _
          case measure =>
            have := hm.out.1
            simp [intOf]; omega
theorem common_s {w : World} {va vb : Value} {x y z : Nat} (ha : IsW w va x) (hb : IsW w vb y) (hx : S64 x) (hy : S64 y) (hz : z = Nat.gcd x y) :
    Calls Tryz.prog 205 #[va, vb] w (RetW w z) := by
  rcases Nat.lt_or_ge x y with h | h
  · exact common_lt ha hb hx hy hz h
  · exact common_ge ha hb hx hy hz h
set_option maxHeartbeats 400000 in
theorem shared_s {w : World} {va vb : Value} {x y z : Nat} (ha : IsW w va x) (hb : IsW w vb y) (hx : S64 x) (hy : S64 y) (hz : z = Nat.gcd x y) :
    Calls Tryz.prog 243 #[va, vb] w (RetW w z) := by
  have Ha := Lib.hid ha
  have Hb := Lib.hid hb
  obtain ⟨A, c, rfl, _, _, _⟩ := ha.1
  obtain ⟨B, d, rfl, _, _, _⟩ := hb.1
  have Hz := Lib.hid hz
  have Hx := Lib.hid hx
  have Hy := Lib.hid hy
  by_cases h1 : x = 1
  · have H1 : Hid (z = 1 ∧ x = 1) := ⟨by rw [hz, h1, Nat.gcd_one_left], h1⟩
    clear hz hx hy h1 ha hb
    go_enter Tryz.func243, Tryz.ntmps243
    go_wp2_with fail
    refine (zbw Ha.out true (by rw [H1.out.2]; rfl)).mono ?_
    rintro e w1 ⟨rfl, rfl⟩
    go_wp2_with fail
    go_ret
    exact ⟨⟨_, rfl, by rw [H1.out.1]; exact isW_box _ (n := 1) (by unfold S64; omega) (by omega)⟩, zaq _ _⟩
  by_cases h2 : y = 1
  · have H1 : Hid (z = 1 ∧ x ≠ 1 ∧ y = 1) := ⟨by rw [hz, h2, Nat.gcd_one_right], h1, h2⟩
    clear hz hx hy h1 h2 ha hb
    go_enter Tryz.func243, Tryz.ntmps243
    go_wp2_with fail
    refine (zbw Ha.out false (by simp [H1.out.2.1])).mono ?_
    rintro e w1 ⟨rfl, rfl⟩
    go_wp2_with fail
    refine (zbw Hb.out true (by rw [H1.out.2.2]; rfl)).mono ?_
    rintro e w1 ⟨rfl, rfl⟩
    go_wp2_with fail
    go_ret
    exact ⟨⟨_, rfl, by rw [H1.out.1]; exact isW_box _ (n := 1) (by unfold S64; omega) (by omega)⟩, zaq _ _⟩
  by_cases h3 : x = y
  · have H1 : Hid (z = x ∧ x ≠ 1 ∧ y ≠ 1 ∧ (0 : Int) = sgn x y) := ⟨by rw [hz, ← h3, Nat.gcd_self], h1, h2, (sgn_eq h3).symm⟩
    clear hz hx hy h1 h2 h3 ha hb
    go_enter Tryz.func243, Tryz.ntmps243
    go_wp2_with fail
    refine (zbw Ha.out false (by simp [H1.out.2.1])).mono ?_
    rintro e w1 ⟨rfl, rfl⟩
    go_wp2_with fail
    refine (zbw Hb.out false (by simp [H1.out.2.2.1])).mono ?_
    rintro e w1 ⟨rfl, rfl⟩
    go_wp2_with fail
    refine (zbu Ha.out Hb.out 0 H1.out.2.2.2).mono ?_
    rintro e w1 ⟨rfl, ⟨nd, rfl⟩⟩
    go_wp2_with fail
    go_ret
    exact ⟨⟨_, rfl, by rw [H1.out.1]; exact Ha.out.drewN nd⟩, below_drewN (Below.refl _ _) nd⟩
  · obtain ⟨s, hs⟩ : ∃ s, s = sgn x y := ⟨_, rfl⟩
    have hs0 : (s == 0) = false := by
      rw [hs, beq_eq_false_iff_ne]; unfold sgn
      by_cases h4 : x < y
      · rw [if_pos h4]; decide
      · rw [if_neg h4, if_neg h3]; decide
    have H1 : Hid (x ≠ 1 ∧ y ≠ 1 ∧ s = sgn x y) := ⟨h1, h2, hs⟩
    clear hz hx hy h1 h2 h3 hs ha hb
    go_enter Tryz.func243, Tryz.ntmps243
    go_wp2_with fail
    refine (zbw Ha.out false (by simp [H1.out.1])).mono ?_
    rintro e w1 ⟨rfl, rfl⟩
    go_wp2_with fail
    refine (zbw Hb.out false (by simp [H1.out.2.1])).mono ?_
    rintro e w1 ⟨rfl, rfl⟩
    go_wp2_with fail
    refine (zbu Ha.out Hb.out s H1.out.2.2).mono ?_
    rintro e w1 ⟨rfl, ⟨nd, rfl⟩⟩
    go_wp2_with fail
    refine (common_s (Ha.out.drewN nd) (Hb.out.drewN nd) Hx.out Hy.out Hz.out).mono ?_
    rintro e w2 ⟨⟨v, rfl, hv⟩, hb2⟩
    go_wp2_with fail
    go_ret
    exact ⟨⟨_, rfl, hv⟩, zef hb2⟩
def RetSg (w : World) (i : Int) (e : Ending) (w' : World) : Prop := (∃ neg v n, e = .returned (.tuple #[.bool neg, v]) ∧ sg neg n = i ∧ IsW w' v n) ∧ Below w.heap.size w w'
set_option maxHeartbeats 400000 in
theorem signed_w {w : World} {va vb : Value} {x y : Nat} {a b : Bool} {i : Int} (ha : IsW w va x) (hb : IsW w vb y) (hx : (wd x).length ≤ 4294967296) (hy : (wd y).length ≤ 4294967296) (hi : i = sg a x + sg b y) :
    Calls Tryz.prog 244 #[.bool a, va, .bool b, vb] w (RetSg w i) := by
  have Ha := Lib.hid ha
  have Hb := Lib.hid hb
  obtain ⟨A, c, rfl, _, _, _⟩ := ha.1
  obtain ⟨B, d, rfl, _, _, _⟩ := hb.1
  have Hi := Lib.hid hi
  have Hx := Lib.hid hx
  have Hy := Lib.hid hy
  by_cases h1 : a = b
  · subst h1
    have e0 : (a == a) = true := by simp
    clear hi hx hy ha hb
    go_enter Tryz.func244, Tryz.ntmps244
    go_wp2_with fail
    refine (plus_nw Ha.out Hb.out Hx.out Hy.out rfl).mono ?_
    rintro e w2 ⟨⟨v, rfl, hv⟩, hb2⟩
    go_wp2_with fail
    go_ret2
    exact ⟨⟨_, _, _, rfl, by rw [Hi.out, sg_add], hv⟩, hb2⟩
  · have e0 : (a == b) = false := by simpa using h1
    have Hn : Hid (b = !a) := by unfold Hid; cases a <;> cases b <;> simp at h1 ⊢
    rcases Nat.lt_or_ge x y with h | h
    · have HS := Lib.hid (zdl h)
      have Hh := Lib.hid h
      clear hi hx hy ha hb h h1
      go_enter Tryz.func244, Tryz.ntmps244
      go_wp2_with fail
      refine (zbu Ha.out Hb.out (-1) HS.out.symm).mono ?_
      rintro e w1 ⟨rfl, ⟨nd, rfl⟩⟩
      go_wp2_with fail
      refine (minus_nw (Hb.out.drewN nd) (Ha.out.drewN nd) (Nat.le_of_lt Hh.out) Hy.out rfl).mono ?_
      rintro e w2 ⟨⟨v, rfl, hv⟩, hb2⟩
      go_wp2_with fail
      go_ret2
      refine ⟨⟨_, _, _, rfl, ?_, hv⟩, zef hb2⟩
      rw [Hi.out, Hn.out, sg_sub (Nat.le_of_lt Hh.out), Bool.not_not, Int.add_comm]
    · obtain ⟨s, hs⟩ : ∃ s, s = sgn x y := ⟨_, rfl⟩
      have hs0 : 0 ≤ s := by
        rw [hs]; unfold sgn
        rw [if_neg (by omega)]
        split <;> omega
      have HS := Lib.hid hs
      have Hh := Lib.hid h
      clear hi hx hy ha hb h h1 hs
      go_enter Tryz.func244, Tryz.ntmps244
      go_wp2_with fail
      refine (zbu Ha.out Hb.out s HS.out).mono ?_
      rintro e w1 ⟨rfl, ⟨nd, rfl⟩⟩
      go_wp2_with fail
      refine (minus_nw (Ha.out.drewN nd) (Hb.out.drewN nd) Hh.out Hx.out rfl).mono ?_
      rintro e w2 ⟨⟨v, rfl, hv⟩, hb2⟩
      go_wp2_with fail
      go_ret2
      refine ⟨⟨_, _, _, rfl, ?_, hv⟩, zef hb2⟩
      rw [Hi.out, Hn.out, sg_sub Hh.out]
def dw (d : Nat) : Nat := if d = 1 then 0 else d
def IsF (w : World) (v : Value) (q : Rat) : Prop :=
  ∃ A m c B n d, v = .agg #[.bool (decide (q.num < 0)), .slice A m c, .slice B n d] ∧ IsW w (.slice A m c) q.num.natAbs ∧ IsW w (.slice B n d) (dw q.den)
theorem IsF.ku {w w' : World} {v : Value} {q : Rat} (h : IsF w v q) (hk : KU w w') : IsF w' v q := by
  obtain ⟨A, m, c, B, n, d, rfl, h1, h2⟩ := h
  exact ⟨A, m, c, B, n, d, rfl, h1.ku hk, h2.ku hk⟩
theorem IsF.next {w w' : World} {v : Value} {q : Rat} (h : IsF w v q) (hb : Below w.heap.size w w') : IsF w' v q := h.ku (.of hb)
theorem uI (w' : World) {w : World} {v : Value} {q : Rat} (h : Hid (IsF w v q)) (hb : Below w.heap.size w w' := by exact bl) : IsF w' v q := h.out.next hb
theorem uW (w' : World) {w : World} {v : Value} {n : Nat} (h : Hid (IsW w v n)) (hb : Below w.heap.size w w' := by exact bl) : IsW w' v n := h.out.next hb
def RetF (w : World) (q : Rat) (e : Ending) (w' : World) : Prop := (∃ v, e = .returned v ∧ IsF w' v q) ∧ Below w.heap.size w w'
theorem IsW.sl {w : World} {v : Value} {n : Nat} (h : IsW w v n) : ∃ A c, v = .slice A (wd n).length c := by
  obtain ⟨A, c, hv, _⟩ := h.1
  exact ⟨A, c, hv⟩
theorem isF_mk {w : World} {vn vd : Value} {q : Rat} {neg : Bool} {n d : Nat} (h : raw q = ⟨neg, lim n, lim d⟩) (hn : IsW w vn n) (hd : IsW w vd (dw d)) : IsF w (.agg #[.bool neg, vn, vd]) q := by
  unfold raw at h
  injection h with h1 h2 h3
  have e2 := lim_inj h2
  have e3 := lim_inj h3
  subst h1
  rw [← e2] at hn
  rw [← e3] at hd
  obtain ⟨A, c, rfl⟩ := hn.sl
  obtain ⟨B, d', rfl⟩ := hd.sl
  exact ⟨A, _, c, B, _, d', rfl, hn, hd⟩
theorem zdy : 150 ≠ 212 := by decide
theorem ku_put3 {w : World} {g : Nat} {x y z : Value} (hr : Row w g 150 [x, y, z]) (a b c : Value) : KU w (put3 w g a b c) :=
  ((KU.set hr zdy 0 a).trans (KU.set (hr.set_ 0 a) zdy 1 b)).trans (KU.set ((hr.set_ 0 a).set_ 1 b) zdy 2 c)
theorem zau {fn : Func} {slot : Tmp} {R : Ending → World → Prop} {a : Act} {w : World} {g : Nat} {x y z : Value} (hr : fn.results = #[.cell slot 150]) (ha : a.tmps.getD slot undef = .pointer (some ⟨g, 0, none⟩)) (hd : a.defers = [])
    (h : Row w g 150 [x, y, z]) (hR : R (.returned (.agg #[x, y, z])) w) : bodyPost Tryz.prog fn R .ret a w := by
  refine bodyPost_ret (v := .agg #[x, y, z]) ?_ hd hR
  obtain ⟨h0, h1, h2⟩ := zab h
  have ha' : a.tmps[slot]?.getD undef = .pointer (some ⟨g, 0, none⟩) := by simpa using ha
  simp [results, hr, ha', asAddr, go_sem, h0, h1, h2]
theorem retF {w w1 : World} {g : Nat} {x y z a b c : Value} {q : Rat} (hr : Row w1 g 150 [x, y, z]) (hf : IsF w1 (.agg #[a, b, c]) q) (hw : Below w.heap.size w w1) (hg : w.heap.size ≤ g) : RetF w q (.returned (.agg #[a, b, c])) (put3 w1 g a b c) :=
  ⟨⟨_, rfl, hf.ku (ku_put3 hr a b c)⟩, zad hw hg _ _ _⟩
theorem dw_one : dw 1 = 0 := rfl
theorem dw_ne {d : Nat} (h : d ≠ 1) : dw d = d := by unfold dw; rw [if_neg h]
theorem zcw {w : World} : IsF w (.agg #[.bool false, .slice none 0 0, .slice none 0 0]) 0 := isF_mk (n := 0) (d := 1) (by rw [raw_zero, lim_zero, zea]) IsW.zero IsW.zero
set_option maxHeartbeats 400000 in
theorem made_f {w : World} {vn vd : Value} {neg : Bool} {n d : Nat} {q : Rat} (hn : IsW w vn n) (hd : IsW w vd d) (hd0 : d ≠ 0) (hg : Nat.gcd n d = 1) (hq : q = mkRat (sg neg n) d) :
    Calls Tryz.prog 206 #[.bool neg, vn, vd] w (RetF w q) := by
  have Hn := Lib.hid hn
  have Hd := Lib.hid hd
  obtain ⟨A, c, rfl⟩ := hn.sl
  obtain ⟨B, b, rfl⟩ := hd.sl
  have Hq := Lib.hid hq
  have Hg := Lib.hid (show d ≠ 0 ∧ Nat.gcd n d = 1 from ⟨hd0, hg⟩)
  obtain ⟨w0, hw0, hb0, rZ, Hz⟩ := zao w #[.bool false, .slice none 0 0, .slice none 0 0] 150
  have HZ := Lib.hid rZ
  have HB := Lib.hid hb0
  obtain ⟨cZ0, cZ1, cZ2⟩ := zab rZ
  obtain ⟨fZ0, fZ1, fZ2⟩ := zan rZ
  by_cases h0 : n = 0
  · have e0 : (((wd n).length : Int) == 0) = true := by rw [wd_nil_iff.2 h0]; rfl
    have H0 : Hid (q = 0) := by rw [Hid, hq, h0, sg_zero, Rat.zero_mkRat]
    clear hq hd0 hg hn hd h0 rZ hb0
    go_enter Tryz.func206, Tryz.ntmps206
    go_wp2_with fail
    clear hw0
    rw [H0.out]
    refine zau Tryz.results206 rfl rfl (HZ.out.put3 _ _ _) (retF HZ.out zcw HB.out (Nat.le_refl _))
  have e0 : (((wd n).length : Int) == 0) = false := beq_eq_false_iff_ne.2 (by have := @wd_nil_iff n; omega)
  have Hr : Hid (raw q = ⟨neg, lim n, lim d⟩) := by rw [Hid, hq]; exact raw_mk hd0 hg (fun h => (h0 h).elim)
  by_cases h1 : d = 1
  · have H1 := Lib.hid h1
    clear hq hd0 hg hn hd h0 rZ hb0 h1
    go_enter Tryz.func206, Tryz.ntmps206
    go_wp2_with fail
    clear hw0
    refine (zbw (uW w0 Hd HB.out) true (by rw [H1.out]; rfl)).mono ?_
    rintro e w1 ⟨rfl, rfl⟩
    go_wp2_with fail
    refine zau Tryz.results206 rfl rfl (HZ.out.put3 _ _ _) (retF HZ.out (isF_mk Hr.out (uW w0 Hn HB.out) (by rw [H1.out]; exact IsW.zero)) HB.out (Nat.le_refl _))
  · have H1 := Lib.hid h1
    clear hq hd0 hg hn hd h0 rZ hb0 h1
    go_enter Tryz.func206, Tryz.ntmps206
    go_wp2_with fail
    clear hw0
    refine (zbw (uW w0 Hd HB.out) false (by simp [H1.out])).mono ?_
    rintro e w1 ⟨rfl, rfl⟩
    go_wp2_with fail
    refine zau Tryz.results206 rfl rfl (HZ.out.put3 _ _ _) (retF HZ.out (isF_mk Hr.out (uW w0 Hn HB.out) (by rw [dw_ne H1.out]; exact uW w0 Hd HB.out)) HB.out (Nat.le_refl _))
theorem raw_inv {q : Rat} {neg : Bool} {n d : Nat} (h : raw q = ⟨neg, lim n, lim d⟩) : q = mkRat (sg neg n) d ∧ d ≠ 0 ∧ Nat.gcd n d = 1 := by
  unfold raw at h
  injection h with h1 h2 h3
  have e2 := lim_inj h2
  have e3 := lim_inj h3
  subst h1
  rw [← e2, ← e3]
  exact ⟨rat_mk q, q.den_nz, q.reduced⟩
def Fz (q : Rat) : Prop := q.num.natAbs < 2147483648 ∧ q.den < 2147483648
theorem Fz.n {q : Rat} (h : Fz q) : S64 q.num.natAbs := by have := h.1; unfold S64; omega
theorem Fz.d {q : Rat} (h : Fz q) : S64 q.den := by have := h.2; unfold S64; omega
theorem s64_mul {a b : Nat} (ha : a < 2147483648) (hb : b < 2147483648) : a * b < 4611686018427387904 := by
  have := Nat.mul_le_mul (Nat.le_sub_one_of_lt ha) (Nat.le_sub_one_of_lt hb)
  omega
theorem s64_of {a : Nat} (h : a < 4611686018427387904) : S64 a := by unfold S64; omega
theorem zbl {a : Nat} (h : S64 a) : (wd a).length ≤ 4294967296 := Nat.le_trans h.len (by omega)
theorem S64.div {a b : Nat} (h : S64 a) : S64 (a / b) := h.le (Nat.div_le_self _ _)
set_option maxHeartbeats 400000 in
theorem reduced_f {w : World} {vn vd : Value} {neg : Bool} {n d : Nat} {q : Rat} (hn : IsW w vn n) (hd : IsW w vd d) (sn : S64 n) (sd : S64 d) (hd0 : d ≠ 0) (hq : q = mkRat (sg neg n) d) :
    Calls Tryz.prog 168 #[.bool neg, vn, vd] w (RetF w q) := by
  have Hn := Lib.hid hn
  have Hd := Lib.hid hd
  obtain ⟨A, c, rfl⟩ := hn.sl
  obtain ⟨B, b, rfl⟩ := hd.sl
  obtain ⟨g, hg⟩ : ∃ g, g = Nat.gcd n d := ⟨_, rfl⟩
  have HG := Lib.hid hg
  have Hs := Lib.hid (show S64 n ∧ S64 d from ⟨sn, sd⟩)
  have Hg : Hid (g ≠ 0 ∧ S64 g) := by
    have h1 : 0 < Nat.gcd n d := Nat.gcd_pos_of_pos_right _ (Nat.pos_of_ne_zero hd0)
    refine ⟨by omega, ?_⟩
    rw [hg]
    exact sd.le (Nat.le_of_dvd (Nat.pos_of_ne_zero hd0) (Nat.gcd_dvd_right _ _))
  have HM : Hid (d / g ≠ 0 ∧ Nat.gcd (n / g) (d / g) = 1 ∧ q = mkRat (sg neg (n / g)) (d / g)) := by
    refine ⟨?_, ?_, ?_⟩
    · rw [hg]
      have h1 := (zeq (Nat.gcd_dvd_right n d) hd0).2
      exact h1
    · rw [hg]; exact gcd_div hd0
    · rw [hq, hg]; exact zff hd0 (Nat.gcd_dvd_left n d) (Nat.gcd_dvd_right n d)
  obtain ⟨w0, hw0, hb0, rZ, Hz⟩ := zao w #[.bool false, .slice none 0 0, .slice none 0 0] 150
  have HZ := Lib.hid rZ
  have HB := Lib.hid hb0
  obtain ⟨cZ0, cZ1, cZ2⟩ := zab rZ
  obtain ⟨fZ0, fZ1, fZ2⟩ := zan rZ
  clear hn hd sn sd hd0 hq hg rZ hb0
  go_enter Tryz.func168, Tryz.ntmps168
  go_wp2_with fail
  clear hw0
  refine (common_s (uW w0 Hn HB.out) (uW w0 Hd HB.out) Hs.out.1 Hs.out.2 HG.out).mono ?_
  rintro e w1 ⟨⟨v1, rfl, hv1⟩, hb1⟩
  have V1 := Lib.hid hv1
  obtain ⟨P1, k1, rfl⟩ := hv1.sl
  have HB1 := Lib.hid (zaa HB.out hb1)
  go_wp2_with fail
  refine (zbe (uW w1 Hn HB1.out) V1.out Hs.out.1 Hg.out.2 Hg.out.1 rfl).mono ?_
  rintro e w2 ⟨⟨v2, rfl, hv2⟩, hb2⟩
  have V2 := Lib.hid hv2
  obtain ⟨P2, k2, rfl⟩ := hv2.sl
  have HB2 := Lib.hid (zaa HB1.out hb2)
  go_wp2_with fail
  refine (zbe (uW w2 Hd HB2.out) (V1.out.next hb2) Hs.out.2 Hg.out.2 Hg.out.1 rfl).mono ?_
  rintro e w3 ⟨⟨v3, rfl, hv3⟩, hb3⟩
  have V3 := Lib.hid hv3
  obtain ⟨P3, k3, rfl⟩ := hv3.sl
  have HB3 := Lib.hid (zaa HB2.out hb3)
  go_wp2_with fail
  refine (made_f (V2.out.next hb3) V3.out HM.out.1 HM.out.2.1 HM.out.2.2).mono ?_
  rintro e w4 ⟨⟨v4, rfl, hv4⟩, hb4⟩
  have V4 := Lib.hid hv4
  obtain ⟨A4, m4, c4, B4, n4, d4, rfl, _, _⟩ := hv4
  have HB4 := Lib.hid (zaa HB3.out hb4)
  have HZ4 := Lib.hid (HZ.out.next (zaa (zaa (zaa hb1 hb2) hb3) hb4))
  obtain ⟨dZ0, dZ1, dZ2⟩ := zab HZ4.out
  obtain ⟨gZ0, gZ1, gZ2⟩ := zan HZ4.out
  go_wp2_with fail
  exact zau Tryz.results168 rfl rfl (HZ4.out.put3 _ _ _) (retF HZ4.out V4.out HB4.out (Nat.le_refl _))
set_option maxHeartbeats 400000 in
theorem zci {w : World} {v : Value} {q : Rat} {d : Nat} (h : IsF w v q) (hd : d = q.den) : Calls Tryz.prog 209 #[v] w (RetW w d) := by
  obtain ⟨A, m, c, B, n, b, rfl, _, h2⟩ := h
  have Hd := Lib.hid hd
  have H2 := Lib.hid h2
  obtain ⟨w0, hw0, hb0, r, Hz⟩ := zao w #[.bool (decide (q.num < 0)), .slice A m c, .slice B n b] 150
  obtain ⟨b0, b1, b2⟩ := zab r
  have HB := Lib.hid hb0
  obtain ⟨B', b', hv⟩ := h2.sl
  have en : n = (wd (dw q.den)).length := by cases hv; rfl
  by_cases h1 : q.den = 1
  · have e0 : ((n : Int) == 0) = true := by rw [en, h1, dw_one, zcd]; rfl
    have H1 := Lib.hid h1
    clear hd h2 hb0 r hv en h1
    go_enter Tryz.func209, Tryz.ntmps209
    go_wp2_with fail
    clear hw0
    go_ret
    exact ⟨⟨_, rfl, by rw [Hd.out, H1.out]; exact isW_box _ (n := 1) (by unfold S64; omega) (by omega)⟩, HB.out.alloc HB.out.size _⟩
  · have e0 : ((n : Int) == 0) = false := by
      rw [en, dw_ne h1]
      have := @wd_nil_iff q.den
      have := q.den_nz
      exact beq_eq_false_iff_ne.2 (by omega)
    have H1 := Lib.hid (dw_ne h1)
    clear hd h2 hb0 r hv en h1
    go_enter Tryz.func209, Tryz.ntmps209
    go_wp2_with fail
    clear hw0
    go_ret
    exact ⟨⟨_, rfl, by rw [Hd.out, ← H1.out]; exact uW w0 H2 HB.out⟩, HB.out⟩
theorem flen {w : World} {A : Option Addr} {m c : Nat} {x : Nat} (h : IsW w (.slice A m c) x) : m = (wd x).length := by
  obtain ⟨B, b, hv⟩ := h.sl
  cases hv; rfl
theorem flen_z {w : World} {A : Option Addr} {m c : Nat} {x : Nat} (h : IsW w (.slice A m c) x) (h0 : x = 0) : ((m : Int) == 0) = true := by
  rw [flen h, h0, zcd]; rfl
theorem zdx {w : World} {A : Option Addr} {m c : Nat} {x : Nat} (h : IsW w (.slice A m c) x) (h0 : x ≠ 0) : ((m : Int) == 0) = false := by
  rw [flen h]; have := @wd_nil_iff x; exact beq_eq_false_iff_ne.2 (by omega)
theorem flen_pos {w : World} {A : Option Addr} {m c : Nat} {x : Nat} (h : IsW w (.slice A m c) x) (h0 : x ≠ 0) : 0 < m := by
  rw [flen h]; have := @wd_nil_iff x; omega
set_option maxHeartbeats 400000 in
theorem sign_f {w : World} {v : Value} {q : Rat} (h : IsF w v q) : Calls Tryz.prog 117 #[v] w fun e w' => e = .returned (.int .i64 (sgnQ q)) ∧ Below w.heap.size w w' := by
  obtain ⟨A, m, c, B, n, b, rfl, h1, h2⟩ := h
  obtain ⟨w0, hw0, hb0, r, Hz⟩ := zao w #[.bool (decide (q.num < 0)), .slice A m c, .slice B n b] 150
  obtain ⟨b0, b1, b2⟩ := zab r
  have HB := Lib.hid hb0
  by_cases h0 : q = 0
  · have e0 := flen_z h1 (num_zero_iff.2 h0)
    have H0 : Hid (0 = sgnQ q) := by unfold Hid sgnQ; rw [if_pos h0]
    clear h1 h2 hb0 r h0
    go_enter Tryz.func117, Tryz.ntmps117
    go_wp2_with fail
    clear hw0
    go_ret
    exact ⟨zae H0.out, HB.out⟩
  · have e0 := zdx h1 (zdi h0)
    by_cases hn : q < 0
    · have H0 : Hid (-1 = sgnQ q) := by unfold Hid sgnQ; rw [if_neg h0, if_pos hn]
      have e1 : decide (q.num < 0) = true := by rw [num_lt]; simpa using hn
      rw [e1] at b0 hw0 ⊢
      clear h1 h2 hb0 r h0 hn e1
      go_enter Tryz.func117, Tryz.ntmps117
      go_wp2_with fail
      clear hw0
      go_ret
      exact ⟨zae H0.out, HB.out⟩
    · have H0 : Hid (1 = sgnQ q) := by unfold Hid sgnQ; rw [if_neg h0, if_neg hn]
      have e1 : decide (q.num < 0) = false := by rw [num_lt]; simpa using hn
      rw [e1] at b0 hw0 ⊢
      clear h1 h2 hb0 r h0 hn e1
      go_enter Tryz.func117, Tryz.ntmps117
      go_wp2_with fail
      clear hw0
      go_ret
      exact ⟨zae H0.out, HB.out⟩
set_option maxHeartbeats 400000 in
theorem neg_f {w : World} {v : Value} {q p : Rat} (h : IsF w v q) (hp : p = -q) : Calls Tryz.prog 245 #[v] w (RetF w p) := by
  obtain ⟨A, m, c, B, n, b, rfl, h1, h2⟩ := h
  obtain ⟨w0, hw0, hb0, rX, rZ, Hz⟩ := zbj w #[.bool (decide (q.num < 0)), .slice A m c, .slice B n b] #[.bool false, .slice none 0 0, .slice none 0 0] 150 150
  obtain ⟨b0, b1, b2⟩ := zab rX
  obtain ⟨cZ0, cZ1, cZ2⟩ := zab rZ
  obtain ⟨fZ0, fZ1, fZ2⟩ := zan rZ
  have HZ := Lib.hid rZ
  have HB := Lib.hid hb0
  have H1 := Lib.hid h1
  have H2 := Lib.hid h2
  have HR : Hid (raw p = ⟨!decide (q.num < 0) && decide (q ≠ 0), lim q.num.natAbs, lim q.den⟩) := by rw [Hid, hp, raw_neg_q]; rfl
  by_cases h0 : q = 0
  · have e0 := flen_z h1 (num_zero_iff.2 h0)
    have e1 : decide (q.num < 0) = false := by rw [h0]; rfl
    have H0 : Hid (false = (!decide (q.num < 0) && decide (q ≠ 0))) := by rw [h0]; rfl
    obtain rfl : m = 0 := by have := flen h1; rw [num_zero_iff.2 h0, zcd] at this; exact this
    rw [e1] at b0 hw0 ⊢
    clear h1 h2 hb0 rX rZ h0 hp e1
    go_enter Tryz.func245, Tryz.ntmps245
    go_wp2_with fail
    clear hw0
    refine zau Tryz.results245 rfl rfl (HZ.out.put3 _ _ _) (retF HZ.out (isF_mk (HR.out.trans (by rw [← H0.out])) (uW w0 H1 HB.out) (uW w0 H2 HB.out)) HB.out og)
  · have e0 := zdx h1 (zdi h0)
    have e2 := flen_pos h1 (zdi h0)
    by_cases hn : q < 0
    · have e1 : decide (q.num < 0) = true := by rw [num_lt]; simpa using hn
      have H0 : Hid (false = (!decide (q.num < 0) && decide (q ≠ 0))) := by rw [e1]; rfl
      rw [e1] at b0 hw0 ⊢
      clear h1 h2 hb0 rX rZ h0 hp e1 hn
      go_enter Tryz.func245, Tryz.ntmps245
      go_wp2_with fail
      clear hw0
      refine zau Tryz.results245 rfl rfl (HZ.out.put3 _ _ _) (retF HZ.out (isF_mk (HR.out.trans (by rw [← H0.out])) (uW w0 H1 HB.out) (uW w0 H2 HB.out)) HB.out og)
    · have e1 : decide (q.num < 0) = false := by rw [num_lt]; simpa using hn
      have H0 : Hid (true = (!decide (q.num < 0) && decide (q ≠ 0))) := by rw [e1, decide_eq_true h0]; rfl
      rw [e1] at b0 hw0 ⊢
      clear h1 h2 hb0 rX rZ h0 hp e1 hn
      go_enter Tryz.func245, Tryz.ntmps245
      go_wp2_with fail
      clear hw0
      refine zau Tryz.results245 rfl rfl (HZ.out.put3 _ _ _) (retF HZ.out (isF_mk (HR.out.trans (by rw [← H0.out])) (uW w0 H1 HB.out) (uW w0 H2 HB.out)) HB.out og)
theorem own_isW {w : World} {base : Nat} {v : Value} {n : Nat} (h : Own w base 212 v (cel .u64 (wd n))) : IsW w v n := by
  obtain ⟨A, c, hv, h1, h2, h3⟩ := Own.isL h
  refine ⟨⟨A, c, hv, h1, h2, h3.wide (Nat.zero_le _) (Nat.le_refl _)⟩, fun A' m' c' he hm => ?_⟩
  rcases h.2 with ⟨hv', hn⟩ | ⟨g, cap, cur, hv', hb, hh, _⟩
  · rw [hv'] at he; cases he; exact (hm rfl).elim
  · rw [hv'] at he; cases he; exact ⟨g, 0, _, _, rfl, hh⟩
def L1 (n : Nat) : Prop := n < 1000000000
theorem L1.len {n : Nat} (h : L1 n) : (lim n).length ≤ 1 := lim_len_le.2 (by rw [pw_one]; exact h)
set_option maxRecDepth 100000 in
set_option maxHeartbeats 1000000 in
theorem fromLimbs_s {w : World} {v : Value} {n : Nat} (h : IsN w 0 w.heap.size v n) (hn : L1 n) : Calls Tryz.prog 232 #[v] w (RetW w n) := by
  have hl := hn.len
  obtain ⟨A, c, rfl, hc, hcm, hA⟩ := h
  have HN := Lib.hid hn
  clear hn
  go_enter Tryz.func232, Tryz.ntmps232
  go_wp2_with fail
  go_loopw [3, 4] (fun u i wr => ∃ k : Nat, k ≤ (lim n).length ∧ i = .int .i64 ((k : Int) - 1) ∧ Below w.heap.size w wr ∧ Hid ((k ≠ 0 → u = .slice none 0 0 ∧ wr = w) ∧ (k = 0 → IsW wr u n))) (fun _ i _ => (intOf i + 1).toNat)
  case atStart =>
    refine ⟨(lim n).length, Nat.le_refl _, rfl, Below.refl _ _, fun _ => ⟨rfl, rfl⟩, fun h => ?_⟩
    rw [lim_nil_iff.1 h]
    exact IsW.zero
  case round =>
    obtain ⟨k, hk, rfl, hbw, hrel⟩ := hrel
    rcases k with _ | k
    · have hf := hrel.out.2 (by trivial)
      have HF := Lib.hid hf
      obtain ⟨P, p, rfl⟩ := hf.sl
      go_wp2_with fail
      go_ret
      exact ⟨⟨_, rfl, HF.out⟩, hbw⟩
    · obtain ⟨rfl, rfl⟩ := hrel.out.1 (by omega)
      obtain rfl : k = 0 := by omega
      have hn0 : n ≠ 0 := by rintro rfl; rw [lim_zero] at hk; simp at hk
      rw [zcs HN.out hn0] at hA
      obtain ⟨ba, oa, rfl, _, _, hca⟩ := hA (by simp [cel])
      have hcell := hca 0 (.int .u32 (n : Int)) rfl
      clear hca
      have e0 : 0 < (n : Int) := by omega
      have e1 : (n : Int) ≤ 999999999 := by have := HN.out; unfold L1 at this; omega
      have H0 := Lib.hid hn0
      clear hrel hn0
      rw [show (((0 + 1 : Nat) : Int) - 1) = 0 from rfl]
      rw [Nat.add_zero] at hcell
      go_wp2_with fail
      go_loop [5, 24] (fun x i => x = .int .u64 (n : Int) ∧ i = .int .i64 0) (fun _ _ => 0)
      case atStart => exact ⟨rfl, rfl⟩
      case round =>
        obtain ⟨rfl, rfl⟩ := hrel
        go_wp2_with (at_builtin; refine zbp elW rfl _ _ rfl rfl (Own.nil _ _ _) rfl rfl (by simp) (Nat.le_refl _) ?_; intro v1 w1 hown1 hb1 hz1)
        go_roundw
        case rel => exact ⟨0, Nat.zero_le _, rfl, hb1, fun h => (h rfl).elim, fun _ => own_isW (by rw [zeo (by have := HN.out; unfold L1 at this; omega) H0.out]; exact hown1)⟩
        case measure => simp [intOf]
theorem own_row {w : World} {base : Nat} {v : Value} {x : Nat} (h : Own w base 212 v [.int .u64 (x : Int)]) : ∃ g cap rest, v = .slice (some ⟨g, 0, none⟩) 1 cap ∧ base ≤ g ∧ 1 ≤ cap ∧ cap ≤ maxLen ∧ Row w g 212 (.int .u64 (x : Int) :: rest) := by
  rcases h.2 with ⟨hv', hn⟩ | ⟨g, cap, cur, hv', hb, hh, h1, h2, h3, h4⟩
  · cases hn
  · simp only [List.length_cons, List.length_nil, Nat.zero_add, Nat.mul_one] at h1 h3 h4 hv'
    obtain ⟨rest, hr⟩ : ∃ rest, cur.toList = .int .u64 (x : Int) :: rest := by
      cases hc : cur.toList with
      | nil => rw [hc] at h4; simp at h4
      | cons y ys => rw [hc] at h4; simp at h4; exact ⟨ys, by rw [h4]⟩
    refine ⟨g, cap, rest, hv', hb, h1, h2, ?_⟩
    unfold Row
    rw [hh, ← hr]
set_option maxRecDepth 100000 in
set_option maxHeartbeats 1000000 in
theorem clone_z {w : World} {A : Option Addr} {c : Nat} (h : IsW w (.slice A 0 c) 0) : Calls Tryz.prog 238 #[.slice A 0 c] w fun e w' => (∃ B d, e = .returned (.slice B 0 d)) ∧ Below w.heap.size w w' := by
  have q := fun (w : World) (a : Option Addr) (n c n' c' : Nat) => Lib.run_eql_slice_nil w _ _ a n c n' c' Tryz.underlying148
  cases A with
  | none =>
    go_enter Tryz.func238, Tryz.ntmps238
    go_wp2_with fail
    go_ret
    exact ⟨⟨_, _, rfl⟩, Below.refl _ _⟩
  | some ad =>
    have hm := Own.sl (show Own (w.alloc (.cells #[] 212)) w.heap.size 212 (.slice (some ⟨w.heap.size, 0, none⟩) 0 0) [] from World.ownsRow_made w #[] 0 (Nat.le_refl _) (Nat.zero_le _) (by simp))
    clear h
    go_enter Tryz.func238, Tryz.ntmps238
    go_wp2_with (at_builtin; refine zex elW rfl _ _ rfl rfl (World.ownsRow_made w #[] 0 (Nat.le_refl _) (Nat.zero_le _) (by simp)) rfl (news := []) rfl (SV.nil (lo := 0) (hi := 0)) (by simp) (by simp) (by simp) ?_; intro v1 w1 hown hb hz)
    obtain ⟨B, d, hv, _⟩ := hown.sl
    have HB := Lib.hid (((Below.refl w.heap.size w).alloc (Nat.le_refl _) _).trans hb)
    clear hb
    subst hv
    go_ret
    exact ⟨⟨_, _, rfl⟩, HB.out⟩
set_option maxRecDepth 100000 in
set_option maxHeartbeats 1000000 in
theorem clone_1 {w : World} {v : Value} {x : Nat} (h : IsW w v x) (hs : S64 x) (h0 : x ≠ 0) : Calls Tryz.prog 238 #[v] w fun e w' => (∃ v', e = .returned v' ∧ Own w' w.heap.size 212 v' [.int .u64 (x : Int)]) ∧ Below w.heap.size w w' := by
  have q := fun (w : World) (a : Option Addr) (n c n' c' : Nat) => Lib.run_eql_slice_nil w _ _ a n c n' c' Tryz.underlying148
  obtain ⟨A, c, rfl, h1, h2, h3⟩ := h.1
  rw [zeo hs h0] at h3 ⊢
  obtain ⟨b, o, rfl, _⟩ := h3 (by simp [cel])
  have h3' := h3.alloc (Nat.le_refl _) (.cells #[] 212)
  clear h hs h0 h3 h1
  go_enter Tryz.func238, Tryz.ntmps238
  go_wp2_with (at_builtin; refine zex elW rfl _ _ rfl rfl (World.ownsRow_made w #[] 0 (Nat.le_refl _) (Nat.zero_le _) (by simp)) rfl (zal _ _) h3' (cel_one _ _) (by simp) (by simp) ?_; intro v1 w1 hown hb hz)
  have HB := Lib.hid (((Below.refl w.heap.size w).alloc (Nat.le_refl _) _).trans hb)
  have HO := Lib.hid hown
  clear hb hown
  go_ret
  exact ⟨⟨_, rfl, HO.out⟩, HB.out⟩
theorem div64_le {x d : Int} (hd : 1 ≤ d) (hd1 : d ≤ 18446744073709551615) (h0 : 0 ≤ x) (h1 : x ≤ d - 1) (w : World) :
    Calls Tryz.prog 239 #[.int .u64 0, .int .u64 x, .int .u64 d] w fun e w' => e = .returned (.tuple #[.int .u64 0, .int .u64 x]) ∧ Dr w w' := by
  have h := div64_z hd hd1 0 x w (by omega) (by omega) h0 (by omega) (.inl rfl)
  rw [Int.zero_mul, Int.zero_add, Int.ediv_eq_zero_of_lt h0 (by omega), Int.emod_eq_of_lt h0 (by omega)] at h
  exact h
def Tu (w : World) : Nat → Prop := fun b => ∃ cs s, w.heap[b]? = some (Obj.cells cs 160 s)
def KT (w w' : World) : Prop := KU w w' ∧ ∀ (b : Nat) cs s, w.heap[b]? = some (Obj.cells cs 160 s) → w'.heap[b]? = w.heap[b]?
theorem KT.refl (w : World) : KT w w := ⟨KU.refl w, fun _ _ _ _ => rfl⟩
theorem KT.trans {a b c : World} (h : KT a b) (k : KT b c) : KT a c := ⟨h.1.trans k.1, fun i cs s hi => (k.2 i cs s ((h.2 i cs s hi).trans hi)).trans (h.2 i cs s hi)⟩
theorem KT.of {w w' : World} (hb : Below w.heap.size w w') : KT w w' := ⟨.of hb, fun b _ _ h => hb.block b (zag h)⟩
theorem KT.set {w : World} {g : Nat} {t : TypeId} {xs : List Value} (hr : Row w g t xs) (ht : t ≠ 212) (ht2 : t ≠ 160) (o : Nat) (u : Value) : KT w (w.setCell ⟨g, o, none⟩ u) := by
  refine ⟨.set hr ht o u, fun b cs s h => Below.heap_setCell w ⟨g, o, none⟩ u b ?_⟩
  rintro rfl
  unfold Row at hr
  rw [hr] at h
  injection h with h
  injection h with _ h2
  exact ht2 h2
theorem KT.same {w w' : World} (h : KT w w') : Same (Tu w) (Tu w') w w' := fun b ⟨cs, s, hb⟩ => ⟨⟨cs, s, (h.2 b cs s hb).trans hb⟩, fun o => World.cell?_of_block (h.2 b cs s hb)⟩
theorem tu_lt {w : World} : ∀ b, Tu w b → Old w b := fun b ⟨_, _, h⟩ => zag h
theorem rat_ne : 30 ≠ 212 ∧ 30 ≠ 160 ∧ 150 ≠ 160 := by decide
theorem kt_put3 {w : World} {g : Nat} {t : TypeId} {x y z : Value} (ht : t ≠ 212) (ht2 : t ≠ 160) (hr : Row w g t [x, y, z]) (a b c : Value) : KT w (put3 w g a b c) :=
  ((KT.set hr ht ht2 0 a).trans (KT.set (hr.set_ 0 a) ht ht2 1 b)).trans (KT.set ((hr.set_ 0 a).set_ 1 b) ht ht2 2 c)
def RetLm (w : World) (n : Nat) (e : Ending) (w' : World) : Prop := (∃ v, e = .returned (.tuple #[v, .bool true]) ∧ NumS w' (Tu w') v n) ∧ Below w.heap.size w w'
set_option maxRecDepth 100000 in
set_option maxHeartbeats 1000000 in
theorem toLimbs_0 {w : World} {A : Option Addr} {c : Nat} (h : IsW w (.slice A 0 c) 0) : Calls Tryz.prog 208 #[.slice A 0 c] w (RetLm w 0) := by
  have H := Lib.hid h
  clear h
  go_enter Tryz.func208, Tryz.ntmps208
  go_wp2_with fail
  refine (clone_z H.out).mono ?_
  rintro e w1 ⟨⟨B, d, rfl⟩, hb⟩
  have HB := Lib.hid hb
  clear hb
  go_wp2_with fail
  go_loop [4, 5] (fun s o => s = .slice B 0 d ∧ o = .slice none 0 0) (fun _ _ => 0)
  case atStart => exact ⟨rfl, rfl⟩
  case round =>
    obtain ⟨rfl, rfl⟩ := hrel
    go_wp2_with fail
    go_ret2
    exact ⟨⟨_, rfl, numS_zero⟩, HB.out⟩
theorem own_two {w : World} {base : Nat} {v : Value} {x : Nat} (h : Own w base 160 v [.int .u32 (x : Int), .int .u32 0]) (hx : L1 x) (h0 : x ≠ 0) :
    ∃ g cap, v = .slice (some ⟨g, 0, none⟩) 2 cap ∧ w.cell? ⟨g, 1, none⟩ = some (.int .u32 0) ∧ 2 ≤ cap ∧ cap ≤ maxLen ∧ NumS w (Tu w) (.slice (some ⟨g, 0, none⟩) 1 cap) x := by
  obtain ⟨A, c, hv, h1, h2, h3⟩ := h.sl
  rcases h.2 with ⟨hv', hn⟩ | ⟨g, cap, cur, hv', hb, hh, _⟩
  · cases hn
  · rw [hv] at hv'
    simp only [Value.slice.injEq, List.length_cons, List.length_nil] at hv'
    obtain ⟨rfl, _, rfl⟩ := hv'
    refine ⟨g, c, hv, ?_, h1, h2, ?_⟩
    · have := h3.at_ 1 (.int .u32 0) rfl
      simpa using this
    · show IsK .u32 w (Tu w) _ (lim x)
      rw [zcs hx h0]
      refine ⟨_, c, rfl, by simp at h1 ⊢; omega, h2, fun _ => ?_⟩
      refine ⟨g, 0, rfl, ⟨_, _, hh⟩, fun j v hv => ?_⟩
      have := h3.at_ j v (by
        cases j with
        | zero => simpa [cel] using hv
        | succ j => simp [cel] at hv)
      exact this
theorem wd_zero_len {w : World} {lo hi : Nat} {v : Value} (h : IsL .u64 w lo hi v (wd (vw [0]))) : ∃ A c, v = .slice A 0 c := by
  rw [show vw [0] = 0 from rfl, zcd] at h
  obtain ⟨A, c, hv, _⟩ := h
  exact ⟨A, c, hv⟩
set_option maxRecDepth 100000 in
set_option maxHeartbeats 2000000 in
theorem toLimbs_1 {w : World} {v : Value} {x : Nat} (h : IsW w v x) (hx : L1 x) (h0 : x ≠ 0) : Calls Tryz.prog 208 #[v] w (RetLm w x) := by
  have H := Lib.hid h
  have hs : S64 x := by unfold L1 at hx; unfold S64; omega
  have HX : Hid (L1 x ∧ x ≠ 0 ∧ S64 x) := ⟨hx, h0, hs⟩
  have x1 : (x : Int) ≤ 999999999 := by unfold L1 at hx; omega
  have x0 : 1 ≤ (x : Int) := by omega
  obtain ⟨A, c, rfl, hcl, hcm, _⟩ := h.1
  have hl : (wd x).length = 1 := hs.len1 h0
  rw [hl] at H ⊢
  have hdiv := Lib.hid (div64_le (x := (x : Int)) (d := 1000000000000000000) (by omega) (by omega) (by omega) (by omega))
  clear h hx h0 hs hl hcl
  go_enter Tryz.func208, Tryz.ntmps208
  go_wp2_with fail
  refine (clone_1 H.out HX.out.2.2 HX.out.2.1).mono ?_
  rintro e w1 ⟨⟨v1, rfl, hown⟩, hb⟩
  obtain ⟨g, cap, rest, rfl, hg, hc1, hc2, hrow⟩ := own_row hown
  have HB := Lib.hid hb
  have HG := Lib.hid hg
  have HR := Lib.hid hrow
  have HC := Lib.hid hc2
  clear hb hg hown hrow hc2
  go_wp2_with fail
  go_loopw [4, 5] (fun s o wr => Below w.heap.size w wr ∧ Hid ((s = .slice (some ⟨g, 0, none⟩) 1 cap ∧ o = .slice none 0 0 ∧ Row wr g 212 (.int .u64 (x : Int) :: rest)) ∨ (∃ B d, s = .slice B 0 d ∧ Own wr w.heap.size 160 o [.int .u32 (x : Int), .int .u32 0]))) (fun s _ _ => match s with | .slice _ m _ => m | _ => 0)
  case atStart => exact ⟨HB.out, .inl ⟨rfl, rfl, HR.out⟩⟩
  case round =>
    obtain ⟨hbw, hrel⟩ := hrel
    rcases hrel.out with ⟨rfl, rfl, hr⟩ | ⟨B, d, rfl, ho⟩
    · have HR1 := Lib.hid hr
      have HBW := Lib.hid hbw
      clear hrel hr hbw
      go_wp2_with fail
      go_loopw [6, 7] (fun r i wi => Below w.heap.size w wi ∧ Hid ((r = .int .u64 0 ∧ i = .int .i64 0 ∧ Row wi g 212 (.int .u64 (x : Int) :: rest)) ∨ (r = .int .u64 (x : Int) ∧ i = .int .i64 (-1) ∧ Row wi g 212 (.int .u64 0 :: rest)))) (fun _ i _ => (intOf i + 1).toNat)
      case atStart => exact ⟨HBW.out, .inl ⟨rfl, rfl, HR1.out⟩⟩
      case round =>
        obtain ⟨hbw, hrel⟩ := hrel
        rcases hrel.out with ⟨rfl, rfl, hr⟩ | ⟨rfl, rfl, hr⟩
        · have hc := hr.cell 0
          have hf := hr.frozen 0
          simp only [List.getElem?_cons_zero] at hc
          have HR2 := Lib.hid hr
          have HBW2 := Lib.hid hbw
          clear hrel hr hbw
          go_wp2_with fail
          refine (hdiv.out _).mono ?_
          rintro e w2 ⟨rfl, ⟨nd, rfl⟩⟩
          go_wp2_with fail
          go_roundw
          case rel =>
            exact ⟨(below_drewN HBW2.out nd).setCell (oh HG) _, .inr ⟨rfl, rfl, (HR2.out.drewN nd).set_ 0 (.int .u64 0)⟩⟩
          case measure => simp [intOf]
        · have HR2 := Lib.hid hr
          have HBW2 := Lib.hid hbw
          have ht := trim_w (some ⟨g, 0, none⟩) cap [0] wr g (g + 1) (by intro z hz; simp at hz; subst hz; omega) (by simpa using hc1) HC.out (by have := hr.sv.take 1; simpa [cel] using this)
          have HT := Lib.hid ht
          clear hrel hr hbw ht
          go_wp2_with fail
          refine HT.out.mono ?_
          rintro e w2 ⟨⟨v2, rfl, hv2⟩, rfl⟩
          obtain ⟨B, d, rfl⟩ := wd_zero_len hv2
          clear hv2
          have e1 : IntKind.u32.wrap ((x : Int) % 1000000000) = (x : Int) := by rw [IntKind.wrap_u32]; omega
          have e2 : (x : Int) / 1000000000 = 0 := by omega
          have e3 : (x : Int) % 1000000000 = (x : Int) := by omega
          go_wp2_with (at_builtin; refine zex elN rfl _ _ rfl rfl (Own.nil _ w.heap.size _) rfl rfl (Row.sv (xs := [.int .u32 (x : Int), .int .u32 0]) (heap_alloc_new _ _)) (by intro u hu; simp at hu; rcases hu with rfl | rfl <;> rfl) (by simp) (by have := HBW2.out.size; simp; omega) ?_; intro v1 w1 hown1 hb1 hz1)
          go_roundw
          case rel =>
            exact ⟨(HBW2.out.alloc HBW2.out.size _).trans hb1, .inr ⟨_, _, rfl, hown1⟩⟩
          case measure => simp
    · obtain ⟨g2, cap2, rfl, hc, hk, hkm, hn⟩ := own_two ho HX.out.1 HX.out.2.1
      have HN := Lib.hid hn
      have HBW := Lib.hid hbw
      have HKM := Lib.hid hkm
      clear hrel ho hbw hn hkm
      go_wp2_with fail
      go_ret2
      exact ⟨⟨_, rfl, HN.out⟩, HBW.out⟩
def L1Q (q : Rat) : Prop := L1 q.num.natAbs ∧ L1 q.den
theorem L1Q.fz {q : Rat} (h : L1Q q) : Fz q := by
  obtain ⟨h1, h2⟩ := h
  unfold L1 at h1 h2
  exact ⟨by omega, by omega⟩
set_option maxHeartbeats 1000000 in
theorem from_f {w : World} {v : Value} {q : Rat} (h : IsQ w (Old w) v q) (hq : L1Q q) : Calls Tryz.prog 204 #[v] w (RetF w q) := by
  obtain ⟨neg, A, c, B, d, rfl, hneg, hn, hd⟩ := zar h
  have HQ : Hid (q = mkRat (sg neg q.num.natAbs) q.den) := by rw [Hid, hneg.out]; exact rat_mk q
  have HL := Lib.hid hq
  obtain ⟨w0, hw0, hb0, rX, rZ, Hz⟩ := zbj w #[.bool neg, .slice A (lim q.num.natAbs).length c, .slice B (lim q.den).length d] #[.bool false, .slice none 0 0, .slice none 0 0] 30 150
  obtain ⟨x0, x1, x2⟩ := zab rX
  obtain ⟨cZ0, cZ1, cZ2⟩ := zab rZ
  obtain ⟨fZ0, fZ1, fZ2⟩ := zan rZ
  have HZ := Lib.hid rZ
  have HB := Lib.hid hb0
  clear h hq rX rZ hb0
  go_enter Tryz.func204, Tryz.ntmps204
  go_wp2_with fail
  clear hw0
  have HS := hs3 x0 x1 x2
  have D1 := Lib.hid fun W (hW : Below w0.heap.size w0 W) => fromLimbs_s (zak (IsK.stb.next hn.out (zaa HB.out hW))) HL.out.1
  have D2 := Lib.hid fun W (hW : Below w0.heap.size w0 W) => fromLimbs_s (zak (IsK.stb.next hd.out (zaa HB.out hW))) HL.out.2
  have qn0 : w.heap.size ≠ w.heap.size + 1 := og
  have HP := hp3 HS (nA qn0 (nA qn0 (nZ qn0)))
  clear qn0
  go_region_held3 (SH.mk _ HS).s
    (first | exact HS.out _ bel | exact HP.out _ bel _ _ _)
    (first
      | (go_at_call 232; (with_reducible refine Calls.mono (D1.out _ bel) ?_); rintro e w1 ⟨⟨v1, rfl, hv1⟩, hb1⟩; have V1 := Lib.hid hv1; obtain ⟨P1, k1, rfl⟩ := hv1.sl)
      | (go_at_call 232; (with_reducible refine Calls.mono (D2.out _ bel) ?_); rintro e w2 ⟨⟨v2, rfl, hv2⟩, hb2⟩; have V2 := Lib.hid hv2; obtain ⟨P2, k2, rfl⟩ := hv2.sl; have D3 := Lib.hid fun W (hW : Below w2.heap.size w2 W) => made_f (V1.out.next (zaa hb2 hW)) (V2.out.next hW) q.den_nz q.reduced HQ.out)
      | (go_at_call 206; (with_reducible refine Calls.mono (D3.out _ bel) ?_); rintro e w3 ⟨⟨v3, rfl, hv3⟩, hb3⟩; have V3 := Lib.hid hv3; obtain ⟨A3, m3, c3, Z3, n3, d3, rfl, _, _⟩ := hv3; have HZ4 := Lib.hid (HZ.out.next (bW w0 w3).out); obtain ⟨dZ0, dZ1, dZ2⟩ := zab HZ4.out; obtain ⟨gZ0, gZ1, gZ2⟩ := zan HZ4.out))
  go_wp2_with fail
  exact zau Tryz.results204 rfl rfl (HZ4.out.put3 _ _ _) (retF HZ4.out V3.out (zaa HB.out (bW w0 w3).out) og)
def RetR1 (w : World) (q : Rat) (e : Ending) (w' : World) : Prop := (∃ v, e = .returned (.tuple #[v, .bool true]) ∧ IsQ w' (Tu w') v q) ∧ Below w.heap.size w w'
theorem toLimbs_s {w : World} {v : Value} {x : Nat} (h : IsW w v x) (hx : L1 x) : Calls Tryz.prog 208 #[v] w (RetLm w x) := by
  by_cases h0 : x = 0
  · subst h0
    obtain ⟨A, c, rfl⟩ := h.sl
    rw [zcd] at h ⊢
    exact toLimbs_0 h
  · exact toLimbs_1 h hx h0
theorem ret_ratb {fn : Func} {slot sb : Tmp} {R : Ending → World → Prop} {a : Act} {w : World} {g : Nat} {x y z : Value} {b : Bool} (hr : fn.results = #[.cell slot 30, .tmp sb]) (ha : a.tmps.getD slot undef = .pointer (some ⟨g, 0, none⟩)) (hb : a.tmps.getD sb undef = .bool b) (hd : a.defers = [])
    (h : Row w g 30 [x, y, z]) (hR : R (.returned (.tuple #[.agg #[x, y, z], .bool b])) w) : bodyPost Tryz.prog fn R .ret a w := by
  refine bodyPost_ret (v := .tuple #[.agg #[x, y, z], .bool b]) ?_ hd hR
  obtain ⟨h0, h1, h2⟩ := zab h
  have ha' : a.tmps[slot]?.getD undef = .pointer (some ⟨g, 0, none⟩) := by simpa using ha
  have hb' : a.tmps[sb]?.getD undef = .bool b := by simpa using hb
  simp [results, hr, ha', hb', asAddr, go_sem, h0, h1, h2]
set_option maxHeartbeats 1000000 in
theorem rat_f {w : World} {v : Value} {q : Rat} (h : IsF w v q) (hq : L1Q q) : Calls Tryz.prog 170 #[v] w (RetR1 w q) := by
  have HX := Lib.hid h
  obtain ⟨A, m, c, B, n, d, rfl, h1, h2⟩ := h
  have HQ := Lib.hid hq
  have H1 := Lib.hid h1
  have H2 := Lib.hid h2
  have HR : Hid (raw q = ⟨decide (q.num < 0), lim q.num.natAbs, lim q.den⟩) := rfl
  obtain ⟨s, hs⟩ : ∃ s, s = decide (q.num < 0) := ⟨_, rfl⟩
  rw [← hs] at HX HR ⊢
  obtain ⟨w0, hw0, hb0, rX, rZ, Hz⟩ := zbj w #[.bool s, .slice A m c, .slice B n d] #[.bool false, .slice none 0 0, .slice none 0 0] 150 30
  obtain ⟨x0, x1, x2⟩ := zab rX
  obtain ⟨cZ0, cZ1, cZ2⟩ := zab rZ
  obtain ⟨fZ0, fZ1, fZ2⟩ := zan rZ
  have HZ := Lib.hid rZ
  have HB := Lib.hid hb0
  clear hq rX rZ hb0 h1 h2 hs
  go_enter Tryz.func170, Tryz.ntmps170
  go_wp2_with fail
  clear hw0
  refine (toLimbs_s (uW w0 H1 HB.out) HQ.out.1).mono ?_
  rintro e w1 ⟨⟨v1, rfl, hv1⟩, hb1⟩
  have V1 := Lib.hid hv1
  obtain ⟨P1, k1, rfl, _⟩ := hv1
  have HS := hs3 x0 x1 x2
  have HB1 := Lib.hid (zaa HB.out hb1)
  obtain ⟨a0, a1, a2⟩ := HS.out _ hb1
  go_wp2_with fail
  refine (zci (uI w1 HX HB1.out) rfl).mono ?_
  rintro e w2 ⟨⟨v2, rfl, hv2⟩, hb2⟩
  have V2 := Lib.hid hv2
  obtain ⟨P2, k2, rfl⟩ := hv2.sl
  have HB2 := Lib.hid (zaa HB1.out hb2)
  go_wp2_with fail
  refine (toLimbs_s V2.out HQ.out.2).mono ?_
  rintro e w3 ⟨⟨v3, rfl, hv3⟩, hb3⟩
  have V3 := Lib.hid hv3
  obtain ⟨P3, k3, rfl, _⟩ := hv3
  have HB3 := Lib.hid (zaa HB2.out hb3)
  have HZ4 := Lib.hid (HZ.out.next (zaa (zaa hb1 hb2) hb3))
  obtain ⟨dZ0, dZ1, dZ2⟩ := zab HZ4.out
  obtain ⟨gZ0, gZ1, gZ2⟩ := zan HZ4.out
  obtain ⟨b0, b1, b2⟩ := HS.out _ (zaa (zaa hb1 hb2) hb3)
  go_wp2_with fail
  have hk := kt_put3 rat_ne.1 rat_ne.2.1 HZ4.out (.bool s) (.slice P1 (lim q.num.natAbs).length k1) (.slice P3 (lim q.den).length k3)
  refine ret_ratb Tryz.results170 rfl rfl rfl (HZ4.out.put3 _ _ _) ⟨⟨_, rfl, isQ_mk HR.out (IsK.stb.to V1.out ((KT.of (zaa hb2 hb3)).trans hk).same) (IsK.stb.to V3.out hk.same)⟩, zad HB3.out og _ _ _⟩
set_option maxHeartbeats 400000 in
theorem zet (w : World) (n : Nat) (i : Int) (hi : i = (n : Int)) (hn : n ≤ 9223372036854775807) : Calls Tryz.prog 169 #[.int .i64 i] w (RetW w n) := by
  subst hi
  by_cases h0 : n = 0
  · subst h0
    go_enter Tryz.func169, Tryz.ntmps169
    go_wp2_with fail
    go_ret
    exact ⟨⟨_, rfl, IsW.zero⟩, Below.refl _ _⟩
  · have e0 : ((n : Int) == 0) = false := beq_eq_false_iff_ne.2 (by omega)
    have e1 : ¬ (n : Int) < 0 := by omega
    have e2 : IntKind.u64.wrap (n : Int) = (n : Int) := by rw [IntKind.wrap_u64]; omega
    have H0 := Lib.hid h0
    clear h0
    go_enter Tryz.func169, Tryz.ntmps169
    go_wp2_with fail
    go_ret
    exact ⟨⟨_, rfl, isW_box _ (by unfold S64; omega) H0.out⟩, zaq _ _⟩
theorem int_raw (n : Nat) : raw ((n : Int) : Rat) = ⟨false, lim n, lim 1⟩ := by
  unfold raw
  rw [show ((n : Int) : Rat).num = n from rfl, show ((n : Int) : Rat).den = 1 from rfl]
  simp
set_option maxHeartbeats 400000 in
theorem int_f (w : World) (n : Nat) (i : Int) (hi : i = (n : Int)) (hn : n ≤ 9223372036854775807) : Calls Tryz.prog 211 #[.int .i64 i] w (RetF w ((n : Int) : Rat)) := by
  have e1 : ¬ i < 0 := by omega
  have HI := Lib.hid hi
  obtain ⟨w0, hw0, hb0, rZ, Hz⟩ := zao w #[.bool false, .slice none 0 0, .slice none 0 0] 150
  have HZ := Lib.hid rZ
  have HB := Lib.hid hb0
  obtain ⟨cZ0, cZ1, cZ2⟩ := zab rZ
  obtain ⟨fZ0, fZ1, fZ2⟩ := zan rZ
  clear rZ hb0 hi
  go_enter Tryz.func211, Tryz.ntmps211
  go_wp2_with fail
  clear hw0
  refine (zet w0 n i HI.out hn).mono ?_
  rintro e w1 ⟨⟨v1, rfl, hv1⟩, hb1⟩
  have V1 := Lib.hid hv1
  obtain ⟨P1, k1, rfl⟩ := hv1.sl
  have HB1 := Lib.hid (zaa HB.out hb1)
  have HZ1 := Lib.hid (HZ.out.next hb1)
  obtain ⟨dZ0, dZ1, dZ2⟩ := zab HZ1.out
  obtain ⟨gZ0, gZ1, gZ2⟩ := zan HZ1.out
  go_wp2_with fail
  exact zau Tryz.results211 rfl rfl (HZ1.out.put3 _ _ _) (retF HZ1.out (isF_mk (int_raw n) V1.out IsW.zero) HB1.out (Nat.le_refl _))
set_option maxHeartbeats 400000 in
theorem ratio_f (w : World) (a b : Nat) (i j : Int) (hi : i = (a : Int)) (hj : j = (b : Int)) (ha : a ≤ 9223372036854775807) (hb : b ≤ 9223372036854775807) (hb0' : b ≠ 0) (q : Rat) (hq : q = mkRat a b) : Calls Tryz.prog 98 #[.int .i64 i, .int .i64 j] w (RetF w q) := by
  have e1 : decide (i < 0) = false := decide_eq_false (by omega)
  have HI := Lib.hid hi
  have HJ := Lib.hid hj
  have HQ : Hid (q = mkRat (sg false a) b ∧ b ≠ 0) := ⟨hq, hb0'⟩
  obtain ⟨w0, hw0, hb0, rZ, Hz⟩ := zao w #[.bool false, .slice none 0 0, .slice none 0 0] 150
  have HZ := Lib.hid rZ
  have HB := Lib.hid hb0
  obtain ⟨cZ0, cZ1, cZ2⟩ := zab rZ
  obtain ⟨fZ0, fZ1, fZ2⟩ := zan rZ
  clear rZ hb0 hi hj hq hb0'
  go_enter Tryz.func98, Tryz.ntmps98
  go_wp2_with fail
  clear hw0
  refine (zet w0 a i HI.out ha).mono ?_
  rintro e w1 ⟨⟨v1, rfl, hv1⟩, hb1⟩
  have V1 := Lib.hid hv1
  obtain ⟨P1, k1, rfl⟩ := hv1.sl
  have HB1 := Lib.hid (zaa HB.out hb1)
  go_wp2_with fail
  refine (zet w1 b j HJ.out hb).mono ?_
  rintro e w2 ⟨⟨v2, rfl, hv2⟩, hb2⟩
  have V2 := Lib.hid hv2
  obtain ⟨P2, k2, rfl⟩ := hv2.sl
  have HB2 := Lib.hid (zaa HB1.out hb2)
  go_wp2_with fail
  refine (reduced_f (V1.out.next hb2) V2.out (by unfold S64; omega) (by unfold S64; omega) HQ.out.2 HQ.out.1).mono ?_
  rintro e w4 ⟨⟨v4, rfl, hv4⟩, hb4⟩
  have V4 := Lib.hid hv4
  obtain ⟨A4, m4, c4, B4, n4, d4, rfl, _, _⟩ := hv4
  have HB4 := Lib.hid (zaa HB2.out hb4)
  have HZ4 := Lib.hid (HZ.out.next (zaa (zaa hb1 hb2) hb4))
  obtain ⟨dZ0, dZ1, dZ2⟩ := zab HZ4.out
  obtain ⟨gZ0, gZ1, gZ2⟩ := zan HZ4.out
  go_wp2_with fail
  exact zau Tryz.results98 rfl rfl (HZ4.out.put3 _ _ _) (retF HZ4.out V4.out HB4.out (Nat.le_refl _))
set_option maxHeartbeats 1000000 in
theorem add_0 {w : World} {va vb : Value} {p q r : Rat} (ha : IsF w va p) (hb : IsF w vb q) (h0 : p = 0) (hr : r = p + q) : Calls Tryz.prog 216 #[va, vb] w (RetF w r) := by
  obtain ⟨Ax, mx, cx, Bx, nx, bx, rfl, hx1, hx2⟩ := ha
  obtain ⟨Ay, my, cy, By, ny, by', rfl, hy1, hy2⟩ := hb
  have X1 := Lib.hid hx1
  have X2 := Lib.hid hx2
  have Y1 := Lib.hid hy1
  have Y2 := Lib.hid hy2
  have HX : Hid (IsF w (.agg #[.bool (decide (p.num < 0)), .slice Ax mx cx, .slice Bx nx bx]) p) := ⟨Ax, mx, cx, Bx, nx, bx, rfl, hx1, hx2⟩
  have HY : Hid (IsF w (.agg #[.bool (decide (q.num < 0)), .slice Ay my cy, .slice By ny by']) q) := ⟨Ay, my, cy, By, ny, by', rfl, hy1, hy2⟩
  obtain ⟨sx, hsx⟩ : ∃ s, s = decide (p.num < 0) := ⟨_, rfl⟩
  obtain ⟨sy, hsy⟩ : ∃ s, s = decide (q.num < 0) := ⟨_, rfl⟩
  rw [← hsx] at HX ⊢
  rw [← hsy] at HY ⊢
  have SX := Lib.hid hsx
  have SY := Lib.hid hsy
  clear hsx hsy
  have HR : Hid (r = q) := by rw [Hid, hr, h0, Rat.zero_add]
  have e0 := flen_z hx1 (num_zero_iff.2 h0)
  obtain ⟨w0, hw0, hb0, rX, rY, rZ, Hz⟩ := zde w #[.bool sx, .slice Ax mx cx, .slice Bx nx bx] #[.bool sy, .slice Ay my cy, .slice By ny by'] #[.bool false, .slice none 0 0, .slice none 0 0] 150 150 150
  obtain ⟨x0, x1, x2⟩ := zab rX
  obtain ⟨y0, y1, y2⟩ := zab rY
  obtain ⟨cZ0, cZ1, cZ2⟩ := zab rZ
  obtain ⟨fZ0, fZ1, fZ2⟩ := zan rZ
  have HZ := Lib.hid rZ
  have HB := Lib.hid hb0
  clear hx1 hx2 hy1 hy2 h0 hr hb0 rX rY rZ Hz
  go_enter Tryz.func216, Tryz.ntmps216
  go_wp2_with fail
  clear hw0
  rw [HR.out]
  exact zau Tryz.results216 rfl rfl (HZ.out.put3 _ _ _) (retF HZ.out (uI w0 HY HB.out) HB.out og)
set_option maxHeartbeats 1000000 in
theorem add_1 {w : World} {va vb : Value} {p q r : Rat} (ha : IsF w va p) (hb : IsF w vb q) (hp : p ≠ 0) (h0 : q = 0) (hr : r = p + q) : Calls Tryz.prog 216 #[va, vb] w (RetF w r) := by
  obtain ⟨Ax, mx, cx, Bx, nx, bx, rfl, hx1, hx2⟩ := ha
  obtain ⟨Ay, my, cy, By, ny, by', rfl, hy1, hy2⟩ := hb
  have X1 := Lib.hid hx1
  have X2 := Lib.hid hx2
  have Y1 := Lib.hid hy1
  have Y2 := Lib.hid hy2
  have HX : Hid (IsF w (.agg #[.bool (decide (p.num < 0)), .slice Ax mx cx, .slice Bx nx bx]) p) := ⟨Ax, mx, cx, Bx, nx, bx, rfl, hx1, hx2⟩
  have HY : Hid (IsF w (.agg #[.bool (decide (q.num < 0)), .slice Ay my cy, .slice By ny by']) q) := ⟨Ay, my, cy, By, ny, by', rfl, hy1, hy2⟩
  obtain ⟨sx, hsx⟩ : ∃ s, s = decide (p.num < 0) := ⟨_, rfl⟩
  obtain ⟨sy, hsy⟩ : ∃ s, s = decide (q.num < 0) := ⟨_, rfl⟩
  rw [← hsx] at HX ⊢
  rw [← hsy] at HY ⊢
  have SX := Lib.hid hsx
  have SY := Lib.hid hsy
  clear hsx hsy
  have HR : Hid (r = p) := by rw [Hid, hr, h0, Rat.add_zero]
  have e0 := zdx hx1 (zdi hp)
  have e1 := flen_z hy1 (num_zero_iff.2 h0)
  obtain ⟨w0, hw0, hb0, rX, rY, rZ, Hz⟩ := zde w #[.bool sx, .slice Ax mx cx, .slice Bx nx bx] #[.bool sy, .slice Ay my cy, .slice By ny by'] #[.bool false, .slice none 0 0, .slice none 0 0] 150 150 150
  obtain ⟨x0, x1, x2⟩ := zab rX
  obtain ⟨y0, y1, y2⟩ := zab rY
  obtain ⟨cZ0, cZ1, cZ2⟩ := zab rZ
  obtain ⟨fZ0, fZ1, fZ2⟩ := zan rZ
  have HZ := Lib.hid rZ
  have HB := Lib.hid hb0
  clear hx1 hx2 hy1 hy2 hp h0 hr hb0 rX rY rZ Hz
  go_enter Tryz.func216, Tryz.ntmps216
  go_wp2_with fail
  clear hw0
  rw [HR.out]
  exact zau Tryz.results216 rfl rfl (HZ.out.put3 _ _ _) (retF HZ.out (uI w0 HX HB.out) HB.out og)
set_option maxRecDepth 100000 in
set_option maxHeartbeats 2000000 in
theorem add_g {w : World} {va vb : Value} {p q r : Rat} (ha : IsF w va p) (hb : IsF w vb q) (hp : p ≠ 0) (hq : q ≠ 0) (fp : Fz p) (fq : Fz q) (hr : r = p + q) : Calls Tryz.prog 216 #[va, vb] w (RetF w r) := by
  obtain ⟨Ax, mx, cx, Bx, nx, bx, rfl, hx1, hx2⟩ := ha
  obtain ⟨Ay, my, cy, By, ny, by', rfl, hy1, hy2⟩ := hb
  have X1 := Lib.hid hx1
  have X2 := Lib.hid hx2
  have Y1 := Lib.hid hy1
  have Y2 := Lib.hid hy2
  have HX : Hid (IsF w (.agg #[.bool (decide (p.num < 0)), .slice Ax mx cx, .slice Bx nx bx]) p) := ⟨Ax, mx, cx, Bx, nx, bx, rfl, hx1, hx2⟩
  have HY : Hid (IsF w (.agg #[.bool (decide (q.num < 0)), .slice Ay my cy, .slice By ny by']) q) := ⟨Ay, my, cy, By, ny, by', rfl, hy1, hy2⟩
  obtain ⟨sx, hsx⟩ : ∃ s, s = decide (p.num < 0) := ⟨_, rfl⟩
  obtain ⟨sy, hsy⟩ : ∃ s, s = decide (q.num < 0) := ⟨_, rfl⟩
  rw [← hsx] at HX ⊢
  rw [← hsy] at HY ⊢
  have SX := Lib.hid hsx
  have SY := Lib.hid hsy
  clear hsx hsy
  have e0 := zdx hx1 (zdi hp)
  have e1 := zdx hy1 (zdi hq)
  have FP := Lib.hid fp
  have FQ := Lib.hid fq
  have HR := Lib.hid hr
  obtain ⟨G, hG⟩ : ∃ G, G = Nat.gcd p.den q.den := ⟨_, rfl⟩
  have HG := Lib.hid hG
  have HGs : Hid (G ≠ 0 ∧ S64 G) := by
    have h1 : 0 < Nat.gcd p.den q.den := Nat.gcd_pos_of_pos_right _ q.den_pos
    refine ⟨by omega, ?_⟩
    rw [hG]
    exact fq.d.le (Nat.le_of_dvd q.den_pos (Nat.gcd_dvd_right _ _))
  have HT : Hid (p.num.natAbs * (q.den / G) < 4611686018427387904 ∧ q.num.natAbs * (p.den / G) < 4611686018427387904) :=
    ⟨s64_mul fp.1 (Nat.lt_of_le_of_lt (Nat.div_le_self _ _) fq.2), s64_mul fq.1 (Nat.lt_of_le_of_lt (Nat.div_le_self _ _) fp.2)⟩
  obtain ⟨w0, hw0, hb0, rX, rY, rZ, Hz⟩ := zde w #[.bool sx, .slice Ax mx cx, .slice Bx nx bx] #[.bool sy, .slice Ay my cy, .slice By ny by'] #[.bool false, .slice none 0 0, .slice none 0 0] 150 150 150
  obtain ⟨x0, x1, x2⟩ := zab rX
  obtain ⟨y0, y1, y2⟩ := zab rY
  obtain ⟨cZ0, cZ1, cZ2⟩ := zab rZ
  obtain ⟨fZ0, fZ1, fZ2⟩ := zan rZ
  have HZ := Lib.hid rZ
  have HB := Lib.hid hb0
  clear hx1 hx2 hy1 hy2 hp hq fp fq hr hG hb0 rX rY rZ
  go_enter Tryz.func216, Tryz.ntmps216
  go_wp2_with fail
  clear hw0
  have HS := hs6 x0 x1 x2 y0 y1 y2
  have D1 := Lib.hid fun W (hW : Below w0.heap.size w0 W) => zci (uI W HX (zaa HB.out hW)) rfl
  have D2 := Lib.hid fun W (hW : Below w0.heap.size w0 W) => zci (uI W HY (zaa HB.out hW)) rfl
  go_region_held3 (SH.mk _ HS).s
    (exact HS.out _ bel)
    (first
      | (go_at_call 209; (with_reducible refine Calls.mono (D1.out _ bel) ?_); rintro e w1 ⟨⟨v1, rfl, hv1⟩, hb1⟩; have V1 := Lib.hid hv1; obtain ⟨P1, k1, rfl⟩ := hv1.sl)
      | (go_at_call 209; (with_reducible refine Calls.mono (D2.out _ bel) ?_); rintro e w2 ⟨⟨v2, rfl, hv2⟩, hb2⟩; have V2 := Lib.hid hv2; obtain ⟨P2, k2, rfl⟩ := hv2.sl; have D3 := Lib.hid fun W (hW : Below w2.heap.size w2 W) => shared_s (V1.out.next (zaa hb2 hW)) (V2.out.next hW) FP.out.d FQ.out.d HG.out)
      | (go_at_call 243; (with_reducible refine Calls.mono (D3.out _ bel) ?_); rintro e w3 ⟨⟨v3, rfl, hv3⟩, hb3⟩; have V3 := Lib.hid hv3; obtain ⟨P3, k3, rfl⟩ := hv3.sl))
  go_wp2_with fail
  have D4 := Lib.hid fun W (hW : Below w3.heap.size w3 W) => zci (uI W HX (zaa HB.out (zaa (bW w0 w3).out hW))) rfl
  have D5 := Lib.hid fun W (hW : Below w3.heap.size w3 W) => zci (uI W HY (zaa HB.out (zaa (bW w0 w3).out hW))) rfl
  go_region_held3 (SH.mk _ HS).s
    (exact HS.out _ bel)
    (first
      | (go_at_call 209; (with_reducible refine Calls.mono (D4.out _ bel) ?_); rintro e w4 ⟨⟨v4, rfl, hv4⟩, hb4⟩; have V4 := Lib.hid hv4; obtain ⟨P4, k4, rfl⟩ := hv4.sl; have D6 := Lib.hid fun W (hW : Below w4.heap.size w4 W) => zbe (V4.out.next hW) (V3.out.next (zaa (bW w3 w4).out hW)) FP.out.d HGs.out.2 HGs.out.1 rfl)
      | (go_at_call 207; (with_reducible refine Calls.mono (D6.out _ bel) ?_); rintro e w5 ⟨⟨v5, rfl, hv5⟩, hb5⟩; have V5 := Lib.hid hv5; obtain ⟨P5, k5, rfl⟩ := hv5.sl)
      | (go_at_call 209; (with_reducible refine Calls.mono (D5.out _ bel) ?_); rintro e w6 ⟨⟨v6, rfl, hv6⟩, hb6⟩; have V6 := Lib.hid hv6; obtain ⟨P6, k6, rfl⟩ := hv6.sl; have D7 := Lib.hid fun W (hW : Below w6.heap.size w6 W) => zbe (V6.out.next hW) (V3.out.next (zaa (bW w3 w6).out hW)) FQ.out.d HGs.out.2 HGs.out.1 rfl)
      | (go_at_call 207; (with_reducible refine Calls.mono (D7.out _ bel) ?_); rintro e w7 ⟨⟨v7, rfl, hv7⟩, hb7⟩; have V7 := Lib.hid hv7; obtain ⟨P7, k7, rfl⟩ := hv7.sl))
  go_wp2_with fail
  have D8 := Lib.hid fun W (hW : Below w7.heap.size w7 W) => zds (uW W X1 (zaa HB.out (zaa (bW w0 w7).out hW))) (V7.out.next hW) (zbl FP.out.n) (zbl FQ.out.d.div) rfl
  have D9 := Lib.hid fun W (hW : Below w7.heap.size w7 W) => zds (uW W Y1 (zaa HB.out (zaa (bW w0 w7).out hW))) (V5.out.next (zaa (bW w5 w7).out hW)) (zbl FQ.out.n) (zbl FP.out.d.div) rfl
  go_region_held3 (SH.mk _ HS).s
    (exact HS.out _ bel)
    (first
      | (go_at_call 214; (with_reducible refine Calls.mono (D8.out _ bel) ?_); rintro e w8 ⟨⟨v8, rfl, hv8⟩, hb8⟩; have V8 := Lib.hid hv8; obtain ⟨P8, k8, rfl⟩ := hv8.sl)
      | (go_at_call 214; (with_reducible refine Calls.mono (D9.out _ bel) ?_); rintro e w9 ⟨⟨v9, rfl, hv9⟩, hb9⟩; have V9 := Lib.hid hv9; obtain ⟨P9, k9, rfl⟩ := hv9.sl; have D10 := Lib.hid fun W (hW : Below w9.heap.size w9 W) => signed_w (a := sx) (b := sy) (V8.out.next (zaa hb9 hW)) (V9.out.next hW) (zbl (s64_of HT.out.1)) (zbl (s64_of HT.out.2)) rfl)
      | (go_at_call 244; (with_reducible refine Calls.mono (D10.out _ bel) ?_); rintro e w10 ⟨⟨s10, v10, n10, rfl, hs10, hv10⟩, hb10⟩; have V10 := Lib.hid hv10; have G10 := Lib.hid hs10; obtain ⟨P10, k10, rfl⟩ := hv10.sl))
  have HJ := Lib.hid G10.out
  by_cases h0 : n10 = 0
  · have e2 : (((wd n10).length : Int) == 0) = true := by rw [wd_nil_iff.2 h0]; rfl
    have H0 : Hid (r = 0) := by rw [Hid, HR.out]; exact plus_nil SX.out SY.out HG.out HJ.out h0
    have HZ4 := Lib.hid (HZ.out.next (bW w0 w10).out)
    obtain ⟨dZ0, dZ1, dZ2⟩ := zab HZ4.out
    obtain ⟨gZ0, gZ1, gZ2⟩ := zan HZ4.out
    clear h0 hs10
    go_wp2_with fail
    rw [H0.out]
    exact zau Tryz.results216 rfl rfl (HZ4.out.put3 _ _ _) (retF HZ4.out zcw (zaa HB.out (bW w0 w10).out) og)
  · have e2 : (((wd n10).length : Int) == 0) = false := beq_eq_false_iff_ne.2 (by have := @wd_nil_iff n10; omega)
    have HN : Hid (S64 n10) := by
      have h1 := HT.out
      have h2 := HJ.out
      unfold Hid S64
      have h3 : (sg s10 n10).natAbs = n10 := zdk _ _
      have h4 := zdk sx (p.num.natAbs * (q.den / G))
      have h5 := zdk sy (q.num.natAbs * (p.den / G))
      rw [h2] at h3
      omega
    have HC : Hid (Nat.gcd n10 G ≠ 0 ∧ S64 (Nat.gcd n10 G)) := by
      have h1 : 0 < Nat.gcd n10 G := Nat.gcd_pos_of_pos_right _ (Nat.pos_of_ne_zero HGs.out.1)
      exact ⟨by omega, HGs.out.2.le (Nat.le_of_dvd (Nat.pos_of_ne_zero HGs.out.1) (Nat.gcd_dvd_right _ _))⟩
    have HQ := Lib.hid (raw_inv (plus_raw SX.out SY.out HG.out HJ.out h0))
    clear h0 hs10
    go_wp2_with fail
    refine (shared_s V10.out (V3.out.next (bW w3 w10).out) HN.out HGs.out.2 rfl).mono ?_
    rintro e w11 ⟨⟨v11, rfl, hv11⟩, hb11⟩
    have V11 := Lib.hid hv11
    obtain ⟨P11, k11, rfl⟩ := hv11.sl
    go_wp2_with fail
    have D12 := Lib.hid fun W (hW : Below w11.heap.size w11 W) => zbe (V10.out.next (zaa hb11 hW)) (V11.out.next hW) HN.out HC.out.2 HC.out.1 rfl
    have D13 := Lib.hid fun W (hW : Below w11.heap.size w11 W) => zci (uI W HY (zaa HB.out (zaa (bW w0 w11).out hW))) rfl
    have qn0 : w.heap.size ≠ w.heap.size + 1 + 1 := og
    have qn1 : w.heap.size + 1 ≠ w.heap.size + 1 + 1 := og
    have HP := hp3 HS (nA qn0 (nA qn0 (nA qn0 (nA qn1 (nA qn1 (nZ qn1))))))
    clear qn0 qn1
    go_region_held3 (SH.mk _ HS).s
      (first | exact HS.out _ bel | exact HP.out _ bel _ _ _)
      (first
        | (go_at_call 207; (with_reducible refine Calls.mono (D12.out _ bel) ?_); rintro e w12 ⟨⟨v12, rfl, hv12⟩, hb12⟩; have V12 := Lib.hid hv12; obtain ⟨P12, k12, rfl⟩ := hv12.sl)
        | (go_at_call 209; (with_reducible refine Calls.mono (D13.out _ bel) ?_); rintro e w13 ⟨⟨v13, rfl, hv13⟩, hb13⟩; have V13 := Lib.hid hv13; obtain ⟨P13, k13, rfl⟩ := hv13.sl; have D14 := Lib.hid fun W (hW : Below w13.heap.size w13 W) => zbe (V13.out.next hW) (V11.out.next (zaa (bW w11 w13).out hW)) FQ.out.d HC.out.2 HC.out.1 rfl)
        | (go_at_call 207; (with_reducible refine Calls.mono (D14.out _ bel) ?_); rintro e w14 ⟨⟨v14, rfl, hv14⟩, hb14⟩; have V14 := Lib.hid hv14; obtain ⟨P14, k14, rfl⟩ := hv14.sl; have D15 := Lib.hid fun W (hW : Below w14.heap.size w14 W) => zds (V5.out.next (zaa (bW w5 w14).out hW)) (V14.out.next hW) (zbl FP.out.d.div) (zbl FQ.out.d.div) rfl)
        | (go_at_call 214; (with_reducible refine Calls.mono (D15.out _ bel) ?_); rintro e w15 ⟨⟨v15, rfl, hv15⟩, hb15⟩; have V15 := Lib.hid hv15; obtain ⟨P15, k15, rfl⟩ := hv15.sl; have D16 := Lib.hid fun W (hW : Below w15.heap.size w15 W) => made_f (V12.out.next (zaa (bW w12 w15).out hW)) (V15.out.next hW) HQ.out.2.1 HQ.out.2.2 (HR.out.trans HQ.out.1))
        | (go_at_call 206; (with_reducible refine Calls.mono (D16.out _ bel) ?_); rintro e w16 ⟨⟨v16, rfl, hv16⟩, hb16⟩; have V16 := Lib.hid hv16; obtain ⟨A16, m16, c16, Z16, n16, d16, rfl, _, _⟩ := hv16; have HZ4 := Lib.hid (HZ.out.next (bW w0 w16).out); obtain ⟨dZ0, dZ1, dZ2⟩ := zab HZ4.out; obtain ⟨gZ0, gZ1, gZ2⟩ := zan HZ4.out))
    go_wp2_with fail
    exact zau Tryz.results216 rfl rfl (HZ4.out.put3 _ _ _) (retF HZ4.out V16.out (zaa HB.out (bW w0 w16).out) og)
end Go.Proofs.YtijjjbgnpfjpmaaGreatDoor
