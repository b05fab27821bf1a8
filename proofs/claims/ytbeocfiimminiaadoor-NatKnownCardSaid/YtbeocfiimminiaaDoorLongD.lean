/-
  The contract of package long's digit.
-/
import Derived.Test.YtbeocfiimminiaaDoorLongC
import Derived.Test.YtbeocfiimminiaaDoorPlain3
namespace Go.Proofs.YtbeocfiimminiaaDoor
open Go.RowKit
set_option linter.unusedVariables false

theorem Row.mid {w : World} {g : Nat} {t : TypeId} {P M S : List Nat} (h : Row w g t (cel .u32 (P ++ M ++ S))) (hl : Lo M) {i : Nat} (hi : i < M.length) :
    ∃ x : Int, Hid (x = (M.getD i 0 : Nat)) ∧ 0 ≤ x ∧ x ≤ 999999999 ∧ w.cell? ⟨g, P.length + i, none⟩ = some (.int .u32 x) := by
  refine ⟨_, rfl, by omega, by have := lo_getD hl i; omega, ?_⟩
  rw [h.cell, cel_at (by simp only [List.length_append]; omega), getD_mid hi]
theorem Row.setMid {w : World} {g : Nat} {t : TypeId} {P M S : List Nat} (h : Row w g t (cel .u32 (P ++ M ++ S))) {i : Nat} (hi : i < M.length) (n : Nat) (x : Int) (hx : x = (n : Int)) :
    Row (w.setCell ⟨g, P.length + i, none⟩ (.int .u32 x)) g t (cel .u32 (P ++ M.set i n ++ S)) := by
  rw [← set_mid hi]
  exact h.setNum _ n x hx

set_option maxRecDepth 100000 in
set_option maxHeartbeats 1000000 in
theorem digit_list (G : Nat) (P M S : List Nat) (B : Option Addr) (c d m : Nat) (v : List Nat) (w : World) (lo hi : Nat) (hv : Lo v) (hM : Lo M) (hvl : v.length = m + 2) (hMl : M.length = m + 3) (hm : m ≤ 8589934592)
    (hP : P.length ≤ 8589934592) (hc : m + 3 ≤ c) (hv1 : 1 ≤ v.getD (m + 1) 0) (hlt : val M < val v * 1000000000) (hr : Row w G 34 (cel .u32 (P ++ M ++ S))) (hB : SV w lo hi B (cel .u32 v)) (hG : G < lo ∨ hi ≤ G) :
    Calls Tryd.prog 55 #[.slice (some ⟨G, P.length, none⟩) (m + 3) c, .slice B (m + 2) d] w fun e w' => (∃ M', e = .returned (.int .u32 ((val M / val v : Nat) : Int)) ∧ Row w' G 34 (cel .u32 (P ++ M' ++ S)) ∧ M'.length = m + 3 ∧ Lo M' ∧ val M' = val M % val v) ∧ Only G w w' := by
  have Hv := Lib.hid hv; clear hv
  have HM := Lib.hid hM; clear hM
  have Hvl := Lib.hid hvl
  have HMl := Lib.hid hMl
  have Hlt := Lib.hid hlt; clear hlt
  obtain ⟨bb, ob, rfl, _, _, hcb⟩ := hB (cel_ne (j := m + 1) (by omega))
  obtain ⟨v1, hv1e, hv10, hv11, hv1c⟩ := cell_lo (j := m + 1) Hv.out hcb (by omega)
  obtain ⟨v2, hv2e, hv20, hv21, hv2c⟩ := cell_lo (j := m) Hv.out hcb (by omega)
  obtain ⟨u0, hu0e, hu00, hu01, hu0c⟩ := hr.mid HM.out (i := m + 2) (by omega)
  obtain ⟨u1, hu1e, hu10, hu11, hu1c⟩ := hr.mid HM.out (i := m + 1) (by omega)
  obtain ⟨u2, hu2e, hu20, hu21, hu2c⟩ := hr.mid HM.out (i := m) (by omega)
  have hv12 : 1 ≤ v1 := by have := hv1e.out; omega
  clear hcb hv1 hvl hMl
  have hU : (val M : Int) = ((u0 * 1000000000 + u1) * 1000000000 + u2) * pw m + val (M.take m) := by
    rw [val_three HMl.out, hu0e.out, hu1e.out, hu2e.out]
    simp only [Int.natCast_add, Int.natCast_mul]
    rfl
  have hV : (val v : Int) = (v1 * 1000000000 + v2) * pw m + val (v.take m) := by
    rw [val_two Hvl.out, hv1e.out, hv2e.out]
    simp only [Int.natCast_add, Int.natCast_mul]
    rfl
  have hQ : (0 : Int) < pw m := by have := pw_pos m; omega
  have hU' : (val (M.take m) : Int) < pw m := by have h := val_lt (lo_take HM.out m); rw [List.length_take, Nat.min_eq_left (by have := HMl.out; omega)] at h; omega
  have hV' : (val (v.take m) : Int) < pw m := by have h := val_lt (lo_take Hv.out m); rw [List.length_take, Nat.min_eq_left (by have := Hvl.out; omega)] at h; omega
  have hltI : (val M : Int) < val v * 1000000000 := by have := Hlt.out; omega
  have Hest : Hid (∀ g r : Int, 0 ≤ g → g * v1 + r = u0 * 1000000000 + u1 → g * v2 > r * 1000000000 + u2 → (val M : Int) < g * val v) :=
    fun g r h0 h1 h2 => est_second hQ (by omega) hU' h0 h1 (by omega) hU hV
  have Hbase : Hid (∀ g : Int, 1000000000 ≤ g → (val M : Int) < g * val v) := fun g h => est_base (by omega) hltI h
  have Hrest : Hid (∀ g r : Int, g * v1 + r = u0 * 1000000000 + u1 → 1000000000 ≤ r → g ≤ 999999999) := fun g r h1 h2 => est_rest hQ hV' (by omega) hv21 hu20 hv12 h1 h2 hltI hU hV
  have Hexit : Hid (∀ g r : Int, 0 ≤ g → g ≤ 999999999 → g * v1 + r = u0 * 1000000000 + u1 → (1000000000 ≤ r ∨ g * v2 ≤ r * 1000000000 + u2) → g * val v ≤ val M + val v) :=
    fun g r h0 h1 h2 h3 => est_exit hQ hV' (by omega) (by omega) hv20 hv21 hu20 hv12 h0 h1 h2 h3 hU hV
  have Hinit : Hid ((val M : Int) < ((u0 * 1000000000 + u1) / v1 + 1) * val v) :=
    est_init hQ (by omega) hU' hv20 hu21 (Int.ediv_nonneg (by omega) (by omega)) (Int.lt_ediv_add_one_mul_self _ (by omega)) hU hV
  have Hdm : Hid ((u0 * 1000000000 + u1) / v1 * v1 + (u0 * 1000000000 + u1) % v1 = u0 * 1000000000 + u1 ∧ 0 ≤ (u0 * 1000000000 + u1) / v1 ∧ (u0 * 1000000000 + u1) / v1 ≤ 999999999999999999 ∧ 0 ≤ (u0 * 1000000000 + u1) % v1 ∧ (u0 * 1000000000 + u1) % v1 < v1) :=
    ⟨Int.ediv_mul_add_emod _ _, Int.ediv_nonneg (by omega) (by omega), Int.le_trans (Int.ediv_le_self _ (by omega)) (by omega), Int.emod_nonneg _ (by omega), Int.emod_lt_of_pos _ (by omega)⟩
  have HU : Hid ((val M : Int) = val (M.take (m + 2)) + pw (m + 2) * u0) := by
    rw [val_top (n := m + 2) (by have := HMl.out; omega), hu0e.out]
    simp [Hid]
  have HVP : Hid ((val v : Int) ≤ pw (m + 2)) := by have h := val_lt Hv.out; rw [Hvl.out] at h; unfold Hid; omega
  clear hU hV hU' hV' hltI hv1e hv2e hu1e hu2e
  have HQ : Hid ((0 : Int) < pw (m + 2)) := by have := pw_pos (m + 2); unfold Hid; omega
  clear hQ
  go_enter Tryd.func55, Tryd.ntmps55
  go_wp2
  go_quiet (fail)
  go_wp2
  go_quiet (fail)
  go_wp2
  go_loopw [7, 8] (fun s7 s8 wr => ∃ g r : Int, s7 = .int .u64 g ∧ s8 = .int .u64 r ∧ 0 ≤ g ∧ g ≤ 999999999999999999 ∧ 0 ≤ r ∧ r ≤ 1999999999 ∧ Dr w wr ∧ Hid (g * v1 + r = u0 * 1000000000 + u1 ∧ (val M : Int) < (g + 1) * val v)) (fun s7 _ _ => (intOf s7).toNat)
  case atStart =>
    have := Hdm.out
    exact ⟨_, _, rfl, rfl, this.2.1, this.2.2.1, this.2.2.2.1, by omega, ((Dr.refl w).drewN _).drewN _, this.1, Hinit.out⟩
  case round =>
    obtain ⟨g, r, rfl, rfl, hg0, hg1, hr0, hr1, ⟨nn, rfl⟩, hrel⟩ := hrel
    have hcase : (r < 1000000000 ∧ 1000000000 ≤ g) ∨ (r < 1000000000 ∧ g ≤ 999999999 ∧ r * 1000000000 + u2 < g * v2) ∨ (1000000000 ≤ r ∧ g ≤ 999999999) ∨ (r < 1000000000 ∧ g ≤ 999999999 ∧ g * v2 ≤ r * 1000000000 + u2) := by
      rcases Int.lt_or_le r 1000000000 with h1 | h1
      · rcases Int.lt_or_le g 1000000000 with h2 | h2
        · rcases Int.lt_or_le (r * 1000000000 + u2) (g * v2) with h3 | h3
          · exact .inr (.inl ⟨h1, by omega, h3⟩)
          · exact .inr (.inr (.inr ⟨h1, by omega, h3⟩))
        · exact .inl ⟨h1, h2⟩
      · exact .inr (.inr (.inl ⟨h1, Hrest.out g r hrel.out.1 h1⟩))
    rcases hcase with ⟨c1, c2⟩ | ⟨c1, c2, c3⟩ | hex
    · go_wp2
      go_quiet (fail)
      go_wp2
      go_roundw
      case rel =>
        exact ⟨g - 1, r + v1, by go_num, by go_num, by omega, by omega, by omega, by omega, ⟨_, rfl⟩, by have := hrel.out.1; rw [Int.sub_mul]; omega, by have := Hbase.out g c2; rw [Int.sub_add_cancel]; exact this⟩
      case measure => simp [intOf]; omega
    · have hgv := mul_le_limb hg0 c2 hv20 hv21
      have hgv0 := hgv.1
      have hgv1 := hgv.2
      clear hgv
      have hg1' : 1 ≤ g := by
        rcases Int.lt_or_le g 1 with h | h
        · have : g = 0 := by omega
          subst this
          rw [Int.zero_mul] at c3
          omega
        · exact h
      have c4 : decide ((1000000000 : Int) ≤ g) = false := by simp; omega
      go_wp2
      go_quiet (fail)
      go_wp2
      go_roundw
      case rel =>
        exact ⟨g - 1, r + v1, by go_num, by go_num, by omega, by omega, by omega, by omega, ⟨_, rfl⟩, by have := hrel.out.1; rw [Int.sub_mul]; omega, by have := Hest.out g r hg0 hrel.out.1 c3; rw [Int.sub_add_cancel]; exact this⟩
      case measure => simp [intOf]; omega
    · have hgb : g ≤ 999999999 := by omega
      have Hg : Hid (g * val v ≤ val M + val v ∧ (val M : Int) < (g + 1) * val v) := ⟨Hexit.out g r hg0 hgb hrel.out.1 (by omega), hrel.out.2⟩
      clear hrel
      have hgv := mul_le_limb hg0 hgb hv20 hv21
      have hgv0 := hgv.1
      have hgv1 := hgv.2
      clear hgv
      rcases hex with ⟨c1, c2⟩ | ⟨c1, c2, c3⟩
      · have c4 : decide (r < (1000000000 : Int)) = false := by simp; omega
        go_wp2
        go_quiet (fail)
        go_wp2
        have hO : Only G w (w.drewN (nn + nq)) := (Only.refl G w).drewN _
        clear hgv0 hgv1
        go_loopw [9, 87] (fun cr i wr => ∃ (i' : Nat) (M' : List Nat) (cy : Int), i' ≤ m + 2 ∧ i = .int .i64 (i' : Int) ∧ cr = .int .u64 cy ∧ 0 ≤ cy ∧ cy ≤ 999999999 ∧ Row wr G 34 (cel .u32 (P ++ M' ++ S)) ∧ Only G w wr ∧
            Hid (M'.length = m + 3 ∧ Lo M' ∧ (∀ j, i' ≤ j → M'.getD j 0 = M.getD j 0) ∧ (val (M'.take i') : Int) = val (M.take i') - g * val (v.take i') + cy * pw i')) (fun _ i _ => m + 2 - (intOf i).toNat)
        case atStart => exact ⟨0, M, 0, Nat.zero_le _, rfl, rfl, by omega, by omega, hr, hO, HMl.out, HM.out, fun _ _ => rfl, by simp [val]⟩
        case round =>
          obtain ⟨i, M', cy, hi, rfl, rfl, hcy0, hcy1, hr', hOw, hrel⟩ := hrel
          have hB' := hB.only hOw hG
          rcases Nat.lt_or_ge i (m + 2) with hlt | hge
          · obtain ⟨y, hy, hy0, hy1, hyc⟩ := cell_lo (j := i) Hv.out hB'.at_ (by have := Hvl.out; omega)
            obtain ⟨x, hx, hx0, hx1, hxc⟩ := hr'.mid hrel.out.2.1 (i := i) (by have := hrel.out.1; omega)
            have hxf := hr'.frozen (P.length + i)
            have hgy := mul_le_limb hg0 hgb hy0 hy1
            have hgy0 := hgy.1
            have hgy1 := hgy.2
            clear hgy
            rcases Int.lt_or_le (x - (g * y + cy) % 1000000000) 0 with hneg | hpos
            · go_wp2
              go_roundw
              case rel =>
                exact ⟨i + 1, M'.set i (x - (g * y + cy) % 1000000000 + 1000000000).toNat, (g * y + cy) / 1000000000 + 1, by omega, by go_num, rfl, by omega, by omega, hr'.setMid (by have := hrel.out.1; omega) _ _ (by omega), hOw.setCell _ _,
                  by rw [List.length_set]; exact hrel.out.1, lo_set hrel.out.2.1 (by omega), fun j hj => by rw [getD_set_ne (by omega)]; exact hrel.out.2.2.1 j (by omega),
                  dig_step (x := x) (y := y) (by have := hrel.out.1; omega) (by rw [← hrel.out.2.2.1 i (Nat.le_refl _)]; exact hx.out) hy.out (by omega) (by omega) hrel.out.2.2.2⟩
              case measure => simp [intOf]; omega
            · go_wp2
              go_roundw
              case rel =>
                exact ⟨i + 1, M'.set i (x - (g * y + cy) % 1000000000).toNat, (g * y + cy) / 1000000000, by omega, by go_num, rfl, by omega, by omega, hr'.setMid (by have := hrel.out.1; omega) _ _ (by omega), hOw.setCell _ _,
                  by rw [List.length_set]; exact hrel.out.1, lo_set hrel.out.2.1 (by omega), fun j hj => by rw [getD_set_ne (by omega)]; exact hrel.out.2.2.1 j (by omega),
                  dig_step (x := x) (y := y) (by have := hrel.out.1; omega) (by rw [← hrel.out.2.2.1 i (Nat.le_refl _)]; exact hx.out) hy.out (by omega) (by omega) hrel.out.2.2.2⟩
              case measure => simp [intOf]; omega
          · obtain rfl : i = m + 2 := by omega
            obtain ⟨x, hx, hx0, hx1, hxc⟩ := hr'.mid hrel.out.2.1 (i := m + 2) (by have := hrel.out.1; omega)
            have hxf := hr'.frozen (P.length + (m + 2))
            have Hxu : Hid (x = u0) := by unfold Hid; rw [hx.out, hrel.out.2.2.1 _ (Nat.le_refl _), ← hu0e.out]
            have Hm := Lib.hid hrel.out.2.2.2
            have HML := Lib.hid hrel.out.1
            have HLo := Lib.hid hrel.out.2.1
            clear hrel
            have Hlt' : Hid ((val (M'.take (m + 2)) : Int) < pw (m + 2)) := by
              have h := val_lt (lo_take HLo.out (m + 2)); rw [List.length_take, Nat.min_eq_left (by have := HML.out; omega)] at h; unfold Hid; omega
            rw [val_take_all (l := v) (Nat.le_of_eq Hvl.out)] at Hm
            rcases Int.lt_or_le x cy with hxc1 | hxc1
            · have hgp : 1 ≤ g := dig_pos HU.out Hm.out Hlt'.out (by have := Hxu.out; omega) HQ.out hg0
              go_wp2
              go_loopw [14, 132] (fun mo i wr => ∃ (i' : Nat) (M2 : List Nat) (o : Int), i' ≤ m + 2 ∧ i = .int .i64 (i' : Int) ∧ mo = .int .u32 o ∧ 0 ≤ o ∧ o ≤ 1 ∧ Row wr G 34 (cel .u32 (P ++ M2 ++ S)) ∧ Only G w wr ∧
                  Hid (M2.length = m + 3 ∧ Lo M2 ∧ (∀ j, i' ≤ j → M2.getD j 0 = M'.getD j 0) ∧ (val (M2.take i') : Int) + o * pw i' = val (M'.take i') + val (v.take i'))) (fun _ i _ => m + 2 - (intOf i).toNat)
              case atStart => exact ⟨0, M', 0, Nat.zero_le _, rfl, rfl, by omega, by omega, hr', hOw, HML.out, HLo.out, fun _ _ => rfl, by simp [val]⟩
              case round =>
                clear hxc hxf hr' hOw hB'
                obtain ⟨i, M2, o, hi, rfl, rfl, ho0, ho1, hr2, hO2, hrel⟩ := hrel
                have hB2 := hB.only hO2 hG
                rcases Nat.lt_or_ge i (m + 2) with hlt | hge
                · obtain ⟨y, hy, hy0, hy1, hyc⟩ := cell_lo (j := i) Hv.out hB2.at_ (by have := Hvl.out; omega)
                  obtain ⟨z, hz, hz0, hz1, hzc⟩ := hr2.mid hrel.out.2.1 (i := i) (by have := hrel.out.1; omega)
                  have hzf := hr2.frozen (P.length + i)
                  rcases Int.lt_or_le (z + y + o) 1000000000 with hneg | hpos
                  · go_wp2
                    go_roundw
                    case rel =>
                      exact ⟨i + 1, M2.set i (z + y + o).toNat, 0, by omega, by go_num, rfl, by omega, by omega, hr2.setMid (by have := hrel.out.1; omega) _ _ (by omega), hO2.setCell _ _,
                        by rw [List.length_set]; exact hrel.out.1, lo_set hrel.out.2.1 (by omega), fun j hj => by rw [getD_set_ne (by omega)]; exact hrel.out.2.2.1 j (by omega),
                        back_step (x := z) (y := y) (c := o) (by have := hrel.out.1; omega) (by rw [← hrel.out.2.2.1 i (Nat.le_refl _)]; exact hz.out) hy.out (by omega) (by omega) hrel.out.2.2.2⟩
                    case measure => simp [intOf]; omega
                  · go_wp2
                    go_roundw
                    case rel =>
                      exact ⟨i + 1, M2.set i (z + y + o - 1000000000).toNat, 1, by omega, by go_num, rfl, by omega, by omega, hr2.setMid (by have := hrel.out.1; omega) _ _ (by omega), hO2.setCell _ _,
                        by rw [List.length_set]; exact hrel.out.1, lo_set hrel.out.2.1 (by omega), fun j hj => by rw [getD_set_ne (by omega)]; exact hrel.out.2.2.1 j (by omega),
                        back_step (x := z) (y := y) (c := o) (by have := hrel.out.1; omega) (by rw [← hrel.out.2.2.1 i (Nat.le_refl _)]; exact hz.out) hy.out (by omega) (by omega) hrel.out.2.2.2⟩
                    case measure => simp [intOf]; omega
                · obtain rfl : i = m + 2 := by omega
                  obtain ⟨z, hz, hz0, hz1, hzc⟩ := hr2.mid hrel.out.2.1 (i := m + 2) (by have := hrel.out.1; omega)
                  have hzf := hr2.frozen (P.length + (m + 2))
                  have h2 := hrel.out.2.2.2
                  rw [val_take_all (l := v) (Nat.le_of_eq Hvl.out)] at h2
                  have hd := dig_back HU.out Hm.out Hlt'.out (by have := Hxu.out; omega) HVP.out hg0 Hg.out.1 h2 (by omega)
                    (by have h := val_lt (lo_take hrel.out.2.1 (m + 2)); rw [List.length_take, Nat.min_eq_left (by have := hrel.out.1; omega)] at h; omega)
                  have Hd := Lib.hid hd
                  clear hd h2
                  go_wp2
                  go_ret
                  refine ⟨⟨M2.set (m + 2) 0, ?_, hr2.setMid (by have := hrel.out.1; omega) _ _ (by omega), by rw [List.length_set]; exact hrel.out.1, lo_set hrel.out.2.1 (by omega), ?_⟩, hO2.setCell _ _⟩
                  · rw [Hd.out.2.1, Int.toNat_of_nonneg (by omega)]; rfl
                  · rw [val_set_top hrel.out.1]
                    have := Hd.out.2.2
                    omega
            · have hd := dig_exact HU.out Hm.out (by omega) Hlt'.out (by have := Hxu.out; omega) HVP.out hg0 Hg.out.2
              have Hd := Lib.hid hd
              clear hd
              go_wp2
              go_ret
              refine ⟨⟨M'.set (m + 2) 0, ?_, hr'.setMid (by have := HML.out; omega) _ _ (by omega), by rw [List.length_set]; exact HML.out, lo_set HLo.out (by omega), ?_⟩, hOw.setCell _ _⟩
              · rw [Hd.out.1, Int.toNat_of_nonneg hg0]; rfl
              · rw [val_set_top HML.out]
                have := Hd.out.2
                omega
      · have c4 : decide ((1000000000 : Int) ≤ g) = false := by simp; omega
        have c5 : decide (r * 1000000000 + u2 < g * v2) = false := by simp; omega
        go_wp2
        go_quiet (fail)
        go_wp2
        have hO : Only G w (w.drewN (nn + nq)) := (Only.refl G w).drewN _
        clear hgv0 hgv1
        go_loopw [9, 87] (fun cr i wr => ∃ (i' : Nat) (M' : List Nat) (cy : Int), i' ≤ m + 2 ∧ i = .int .i64 (i' : Int) ∧ cr = .int .u64 cy ∧ 0 ≤ cy ∧ cy ≤ 999999999 ∧ Row wr G 34 (cel .u32 (P ++ M' ++ S)) ∧ Only G w wr ∧
            Hid (M'.length = m + 3 ∧ Lo M' ∧ (∀ j, i' ≤ j → M'.getD j 0 = M.getD j 0) ∧ (val (M'.take i') : Int) = val (M.take i') - g * val (v.take i') + cy * pw i')) (fun _ i _ => m + 2 - (intOf i).toNat)
        case atStart => exact ⟨0, M, 0, Nat.zero_le _, rfl, rfl, by omega, by omega, hr, hO, HMl.out, HM.out, fun _ _ => rfl, by simp [val]⟩
        case round =>
          obtain ⟨i, M', cy, hi, rfl, rfl, hcy0, hcy1, hr', hOw, hrel⟩ := hrel
          have hB' := hB.only hOw hG
          rcases Nat.lt_or_ge i (m + 2) with hlt | hge
          · obtain ⟨y, hy, hy0, hy1, hyc⟩ := cell_lo (j := i) Hv.out hB'.at_ (by have := Hvl.out; omega)
            obtain ⟨x, hx, hx0, hx1, hxc⟩ := hr'.mid hrel.out.2.1 (i := i) (by have := hrel.out.1; omega)
            have hxf := hr'.frozen (P.length + i)
            have hgy := mul_le_limb hg0 hgb hy0 hy1
            have hgy0 := hgy.1
            have hgy1 := hgy.2
            clear hgy
            rcases Int.lt_or_le (x - (g * y + cy) % 1000000000) 0 with hneg | hpos
            · go_wp2
              go_roundw
              case rel =>
                exact ⟨i + 1, M'.set i (x - (g * y + cy) % 1000000000 + 1000000000).toNat, (g * y + cy) / 1000000000 + 1, by omega, by go_num, rfl, by omega, by omega, hr'.setMid (by have := hrel.out.1; omega) _ _ (by omega), hOw.setCell _ _,
                  by rw [List.length_set]; exact hrel.out.1, lo_set hrel.out.2.1 (by omega), fun j hj => by rw [getD_set_ne (by omega)]; exact hrel.out.2.2.1 j (by omega),
                  dig_step (x := x) (y := y) (by have := hrel.out.1; omega) (by rw [← hrel.out.2.2.1 i (Nat.le_refl _)]; exact hx.out) hy.out (by omega) (by omega) hrel.out.2.2.2⟩
              case measure => simp [intOf]; omega
            · go_wp2
              go_roundw
              case rel =>
                exact ⟨i + 1, M'.set i (x - (g * y + cy) % 1000000000).toNat, (g * y + cy) / 1000000000, by omega, by go_num, rfl, by omega, by omega, hr'.setMid (by have := hrel.out.1; omega) _ _ (by omega), hOw.setCell _ _,
                  by rw [List.length_set]; exact hrel.out.1, lo_set hrel.out.2.1 (by omega), fun j hj => by rw [getD_set_ne (by omega)]; exact hrel.out.2.2.1 j (by omega),
                  dig_step (x := x) (y := y) (by have := hrel.out.1; omega) (by rw [← hrel.out.2.2.1 i (Nat.le_refl _)]; exact hx.out) hy.out (by omega) (by omega) hrel.out.2.2.2⟩
              case measure => simp [intOf]; omega
          · obtain rfl : i = m + 2 := by omega
            obtain ⟨x, hx, hx0, hx1, hxc⟩ := hr'.mid hrel.out.2.1 (i := m + 2) (by have := hrel.out.1; omega)
            have hxf := hr'.frozen (P.length + (m + 2))
            have Hxu : Hid (x = u0) := by unfold Hid; rw [hx.out, hrel.out.2.2.1 _ (Nat.le_refl _), ← hu0e.out]
            have Hm := Lib.hid hrel.out.2.2.2
            have HML := Lib.hid hrel.out.1
            have HLo := Lib.hid hrel.out.2.1
            clear hrel
            have Hlt' : Hid ((val (M'.take (m + 2)) : Int) < pw (m + 2)) := by
              have h := val_lt (lo_take HLo.out (m + 2)); rw [List.length_take, Nat.min_eq_left (by have := HML.out; omega)] at h; unfold Hid; omega
            rw [val_take_all (l := v) (Nat.le_of_eq Hvl.out)] at Hm
            rcases Int.lt_or_le x cy with hxc1 | hxc1
            · have hgp : 1 ≤ g := dig_pos HU.out Hm.out Hlt'.out (by have := Hxu.out; omega) HQ.out hg0
              go_wp2
              go_loopw [14, 132] (fun mo i wr => ∃ (i' : Nat) (M2 : List Nat) (o : Int), i' ≤ m + 2 ∧ i = .int .i64 (i' : Int) ∧ mo = .int .u32 o ∧ 0 ≤ o ∧ o ≤ 1 ∧ Row wr G 34 (cel .u32 (P ++ M2 ++ S)) ∧ Only G w wr ∧
                  Hid (M2.length = m + 3 ∧ Lo M2 ∧ (∀ j, i' ≤ j → M2.getD j 0 = M'.getD j 0) ∧ (val (M2.take i') : Int) + o * pw i' = val (M'.take i') + val (v.take i'))) (fun _ i _ => m + 2 - (intOf i).toNat)
              case atStart => exact ⟨0, M', 0, Nat.zero_le _, rfl, rfl, by omega, by omega, hr', hOw, HML.out, HLo.out, fun _ _ => rfl, by simp [val]⟩
              case round =>
                clear hxc hxf hr' hOw hB'
                obtain ⟨i, M2, o, hi, rfl, rfl, ho0, ho1, hr2, hO2, hrel⟩ := hrel
                have hB2 := hB.only hO2 hG
                rcases Nat.lt_or_ge i (m + 2) with hlt | hge
                · obtain ⟨y, hy, hy0, hy1, hyc⟩ := cell_lo (j := i) Hv.out hB2.at_ (by have := Hvl.out; omega)
                  obtain ⟨z, hz, hz0, hz1, hzc⟩ := hr2.mid hrel.out.2.1 (i := i) (by have := hrel.out.1; omega)
                  have hzf := hr2.frozen (P.length + i)
                  rcases Int.lt_or_le (z + y + o) 1000000000 with hneg | hpos
                  · go_wp2
                    go_roundw
                    case rel =>
                      exact ⟨i + 1, M2.set i (z + y + o).toNat, 0, by omega, by go_num, rfl, by omega, by omega, hr2.setMid (by have := hrel.out.1; omega) _ _ (by omega), hO2.setCell _ _,
                        by rw [List.length_set]; exact hrel.out.1, lo_set hrel.out.2.1 (by omega), fun j hj => by rw [getD_set_ne (by omega)]; exact hrel.out.2.2.1 j (by omega),
                        back_step (x := z) (y := y) (c := o) (by have := hrel.out.1; omega) (by rw [← hrel.out.2.2.1 i (Nat.le_refl _)]; exact hz.out) hy.out (by omega) (by omega) hrel.out.2.2.2⟩
                    case measure => simp [intOf]; omega
                  · go_wp2
                    go_roundw
                    case rel =>
                      exact ⟨i + 1, M2.set i (z + y + o - 1000000000).toNat, 1, by omega, by go_num, rfl, by omega, by omega, hr2.setMid (by have := hrel.out.1; omega) _ _ (by omega), hO2.setCell _ _,
                        by rw [List.length_set]; exact hrel.out.1, lo_set hrel.out.2.1 (by omega), fun j hj => by rw [getD_set_ne (by omega)]; exact hrel.out.2.2.1 j (by omega),
                        back_step (x := z) (y := y) (c := o) (by have := hrel.out.1; omega) (by rw [← hrel.out.2.2.1 i (Nat.le_refl _)]; exact hz.out) hy.out (by omega) (by omega) hrel.out.2.2.2⟩
                    case measure => simp [intOf]; omega
                · obtain rfl : i = m + 2 := by omega
                  obtain ⟨z, hz, hz0, hz1, hzc⟩ := hr2.mid hrel.out.2.1 (i := m + 2) (by have := hrel.out.1; omega)
                  have hzf := hr2.frozen (P.length + (m + 2))
                  have h2 := hrel.out.2.2.2
                  rw [val_take_all (l := v) (Nat.le_of_eq Hvl.out)] at h2
                  have hd := dig_back HU.out Hm.out Hlt'.out (by have := Hxu.out; omega) HVP.out hg0 Hg.out.1 h2 (by omega)
                    (by have h := val_lt (lo_take hrel.out.2.1 (m + 2)); rw [List.length_take, Nat.min_eq_left (by have := hrel.out.1; omega)] at h; omega)
                  have Hd := Lib.hid hd
                  clear hd h2
                  go_wp2
                  go_ret
                  refine ⟨⟨M2.set (m + 2) 0, ?_, hr2.setMid (by have := hrel.out.1; omega) _ _ (by omega), by rw [List.length_set]; exact hrel.out.1, lo_set hrel.out.2.1 (by omega), ?_⟩, hO2.setCell _ _⟩
                  · rw [Hd.out.2.1, Int.toNat_of_nonneg (by omega)]; rfl
                  · rw [val_set_top hrel.out.1]
                    have := Hd.out.2.2
                    omega
            · have hd := dig_exact HU.out Hm.out (by omega) Hlt'.out (by have := Hxu.out; omega) HVP.out hg0 Hg.out.2
              have Hd := Lib.hid hd
              clear hd
              go_wp2
              go_ret
              refine ⟨⟨M'.set (m + 2) 0, ?_, hr'.setMid (by have := HML.out; omega) _ _ (by omega), by rw [List.length_set]; exact HML.out, lo_set HLo.out (by omega), ?_⟩, hOw.setCell _ _⟩
              · rw [Hd.out.1, Int.toNat_of_nonneg hg0]; rfl
              · rw [val_set_top HML.out]
                have := Hd.out.2
                omega
end Go.Proofs.YtbeocfiimminiaaDoor
