/-
  The zau of package long's digit.
-/
import Derived.Test.YtjkgdggkgljdoaaDoorVinv03
import Derived.Test.YtjkgdggkgljdoaaDoorVinv01
import Derived.Test.YtjkgdggkgljdoaaDoorVinv02
import Derived.IntWalk
namespace Go.Proofs.YtjkgdggkgljdoaaDoor
open Go.RowKit
set_option linter.unusedVariables false
theorem Row.mid {w : World} {g : Nat} {t : TypeId} {P M S : List Nat} (h : Row w g t (cel .u32 (P ++ M ++ S))) (hl : Lo M) {i : Nat} (hi : i < M.length) :
    ∃ x : Int, Hid (x = (M.getD i 0 : Nat)) ∧ 0 ≤ x ∧ x ≤ 999999999 ∧ w.cell? ⟨g, P.length + i, none⟩ = some (.int .u32 x) := by
  refine ⟨_, rfl, by omega, by have := zep hl i; omega, ?_⟩
  rw [h.cell, cel_at (by simp only [List.length_append]; omega), getD_mid hi]
theorem Row.setMid {w : World} {g : Nat} {t : TypeId} {P M S : List Nat} (h : Row w g t (cel .u32 (P ++ M ++ S))) {i : Nat} (hi : i < M.length) (n : Nat) (x : Int) (hx : x = (n : Int)) :
    Row (w.setCell ⟨g, P.length + i, none⟩ (.int .u32 x)) g t (cel .u32 (P ++ M.set i n ++ S)) := by
  rw [← set_mid hi]
  exact h.setNum _ n x hx
set_option maxRecDepth 100000 in
set_option maxHeartbeats 1000000 in
theorem digit_list (G : Nat) (P M S : List Nat) (B : Option Addr) (c d m : Nat) (v : List Nat) (w : World) (lo hi : Nat) (hv : Lo v) (hM : Lo M) (hvl : v.length = m + 2) (hMl : M.length = m + 3) (hm : m ≤ 8589934592)
    (hP : P.length ≤ 8589934592) (hc : m + 3 ≤ c) (hv1 : 1 ≤ v.getD (m + 1) 0) (hlt : val M < val v * 1000000000) (hr : Row w G 94 (cel .u32 (P ++ M ++ S))) (hB : SV w lo hi B (cel .u32 v)) (hG : G < lo ∨ hi ≤ G) :
    Calls Tryd.prog 146 #[.slice (some ⟨G, P.length, none⟩) (m + 3) c, .slice B (m + 2) d] w fun e w' => (∃ M', e = .returned (.int .u32 ((val M / val v : Nat) : Int)) ∧ Row w' G 94 (cel .u32 (P ++ M' ++ S)) ∧ M'.length = m + 3 ∧ Lo M' ∧ val M' = val M % val v) ∧ Only G w w' := by
  have Hv := Lib.hid hv; clear hv
  have HM := Lib.hid hM; clear hM
  have Hvl := Lib.hid hvl
  have HMl := Lib.hid hMl
  have Hlt := Lib.hid hlt; clear hlt
  obtain ⟨bb, ob, rfl, _, _, hcb⟩ := hB (zbm (j := m + 1) (by omega))
  obtain ⟨v1, hv1e, hv10, hv11, hv1c⟩ := zbl (j := m + 1) Hv.out hcb (by omega)
  obtain ⟨v2, hv2e, hv20, hv21, hv2c⟩ := zbl (j := m) Hv.out hcb (by omega)
  obtain ⟨u0, hu0e, hu00, hu01, hu0c⟩ := hr.mid HM.out (i := m + 2) (by omega)
  obtain ⟨u1, hu1e, hu10, hu11, hu1c⟩ := hr.mid HM.out (i := m + 1) (by omega)
  obtain ⟨u2, hu2e, hu20, hu21, hu2c⟩ := hr.mid HM.out (i := m) (by omega)
  have hv12 : 1 ≤ v1 := by have := hv1e.out; omega
  clear hcb hv1 hvl hMl
  have hU : (val M : Int) = ((u0 * 1000000000 + u1) * 1000000000 + u2) * pw m + val (M.take m) := by
    rw [val_three HMl.out, hu0e.out, hu1e.out, hu2e.out]
    simp only [Int.natCast_add, Int.natCast_mul]
    rfl
  have hV : (val v : Int) = (v1 * 1000000000 + v2) * pw m + val (v.take m) := by
    rw [val_two Hvl.out, hv1e.out, hv2e.out]
    simp only [Int.natCast_add, Int.natCast_mul]
    rfl
  have hQ : (0 : Int) < pw m := by have := zff m; omega
  have hU' : (val (M.take m) : Int) < pw m := by have h := zea (zdf HM.out m); rw [List.length_take, Nat.min_eq_left (by have := HMl.out; omega)] at h; omega
  have hV' : (val (v.take m) : Int) < pw m := by have h := zea (zdf Hv.out m); rw [List.length_take, Nat.min_eq_left (by have := Hvl.out; omega)] at h; omega
  have hltI : (val M : Int) < val v * 1000000000 := by have := Hlt.out; omega
  have Hest : Hid (∀ g r : Int, 0 ≤ g → g * v1 + r = u0 * 1000000000 + u1 → g * v2 > r * 1000000000 + u2 → (val M : Int) < g * val v) :=
    fun g r h0 h1 h2 => est_second hQ (by omega) hU' h0 h1 (by omega) hU hV
  have Hbase : Hid (∀ g : Int, 1000000000 ≤ g → (val M : Int) < g * val v) := fun g h => est_base (by omega) hltI h
  have Hrest : Hid (∀ g r : Int, g * v1 + r = u0 * 1000000000 + u1 → 1000000000 ≤ r → g ≤ 999999999) := fun g r h1 h2 => est_rest hQ hV' (by omega) hv21 hu20 hv12 h1 h2 hltI hU hV
  have Hexit : Hid (∀ g r : Int, 0 ≤ g → g ≤ 999999999 → g * v1 + r = u0 * 1000000000 + u1 → (1000000000 ≤ r ∨ g * v2 ≤ r * 1000000000 + u2) → g * val v ≤ val M + val v) :=
    fun g r h0 h1 h2 h3 => est_exit hQ hV' (by omega) (by omega) hv20 hv21 hu20 hv12 h0 h1 h2 h3 hU hV
  have Hinit : Hid ((val M : Int) < ((u0 * 1000000000 + u1) / v1 + 1) * val v) :=
    est_init hQ (by omega) hU' hv20 hu21 (Int.ediv_nonneg (by omega) (by omega)) (Int.lt_ediv_add_one_mul_self _ (by omega)) hU hV
  have Hdm : Hid ((u0 * 1000000000 + u1) / v1 * v1 + (u0 * 1000000000 + u1) % v1 = u0 * 1000000000 + u1 ∧ 0 ≤ (u0 * 1000000000 + u1) / v1 ∧ (u0 * 1000000000 + u1) / v1 ≤ 999999999999999999 ∧ 0 ≤ (u0 * 1000000000 + u1) % v1 ∧ (u0 * 1000000000 + u1) % v1 < v1) :=
    ⟨Int.ediv_mul_add_emod _ _, Int.ediv_nonneg (by omega) (by omega), Int.le_trans (Int.ediv_le_self _ (by omega)) (by omega), Int.emod_nonneg _ (by omega), Int.emod_lt_of_pos _ (by omega)⟩
  have HU : Hid ((val M : Int) = val (M.take (m + 2)) + pw (m + 2) * u0) := by
    rw [val_top (n := m + 2) (by have := HMl.out; omega), hu0e.out]
    simp [Hid]
  have HVP : Hid ((val v : Int) ≤ pw (m + 2)) := by have h := zea Hv.out; rw [Hvl.out] at h; unfold Hid; omega
  clear hU hV hU' hV' hltI hv1e hv2e hu1e hu2e
  have HQ : Hid ((0 : Int) < pw (m + 2)) := by have := zff (m + 2); unfold Hid; omega
  clear hQ
  go_enter Tryd.func146, Tryd.ntmps146
  go_wp2
  go_quiet (fail)
  go_wp2
  go_quiet (fail)
  go_wp2
  go_loopw [7, 8] (fun s7 s8 wr => ∃ g r : Int, s7 = .int .u64 g ∧ s8 = .int .u64 r ∧ 0 ≤ g ∧ g ≤ 999999999999999999 ∧ 0 ≤ r ∧ r ≤ 1999999999 ∧ Dr w wr ∧ Hid (g * v1 + r = u0 * 1000000000 + u1 ∧ (val M : Int) < (g + 1) * val v)) (fun s7 _ _ => (intOf s7).toNat)
  case atStart =>
    have := Hdm.out
    exact ⟨_, _, rfl, rfl, this.2.1, this.2.2.1, this.2.2.2.1, by omega, ((Dr.refl w).drewN _).drewN _, this.1, Hinit.out⟩
  case round =>
    obtain ⟨g, r, rfl, rfl, hg0, hg1, hr0, hr1, ⟨nn, rfl⟩, hrel⟩ := hrel
    have hcase : (r < 1000000000 ∧ 1000000000 ≤ g) ∨ (r < 1000000000 ∧ g ≤ 999999999 ∧ r * 1000000000 + u2 < g * v2) ∨ (1000000000 ≤ r ∧ g ≤ 999999999) ∨ (r < 1000000000 ∧ g ≤ 999999999 ∧ g * v2 ≤ r * 1000000000 + u2) := by
      rcases Int.lt_or_le r 1000000000 with h1 | h1
      · rcases Int.lt_or_le g 1000000000 with h2 | h2
        · rcases Int.lt_or_le (r * 1000000000 + u2) (g * v2) with h3 | h3
          · exact .inr (.inl ⟨h1, by omega, h3⟩)
          · exact .inr (.inr (.inr ⟨h1, by omega, h3⟩))
        · exact .inl ⟨h1, h2⟩
      · exact .inr (.inr (.inl ⟨h1, Hrest.out g r hrel.out.1 h1⟩))
    rcases hcase with ⟨c1, c2⟩ | ⟨c1, c2, c3⟩ | hex
    · go_wp2
      go_quiet (fail)
      go_wp2
      go_roundw
      case rel =>
        exact ⟨g - 1, r + v1, by go_num, by go_num, by omega, by omega, by omega, by omega, ⟨_, rfl⟩, by have := hrel.out.1; rw [Int.sub_mul]; omega, by have := Hbase.out g c2; rw [Int.sub_add_cancel]; exact this⟩
      case measure => simp [intOf]; omega
    · have hgv := zce hg0 c2 hv20 hv21
      have hgv0 := hgv.1
      have hgv1 := hgv.2
      clear hgv
      have hg1' : 1 ≤ g := by
        rcases Int.lt_or_le g 1 with h | h
        · have : g = 0 := by omega
          subst this
          rw [Int.zero_mul] at c3
          omega
        · exact h
      have c4 : decide ((1000000000 : Int) ≤ g) = false := by simp; omega
      go_wp2
      go_quiet (fail)
      go_wp2
      go_roundw
      case rel =>
        exact ⟨g - 1, r + v1, by go_num, by go_num, by omega, by omega, by omega, by omega, ⟨_, rfl⟩, by have := hrel.out.1; rw [Int.sub_mul]; omega, by have := Hest.out g r hg0 hrel.out.1 c3; rw [Int.sub_add_cancel]; exact this⟩
      case measure => simp [intOf]; omega
    · have hgb : g ≤ 999999999 := by omega
      have Hg : Hid (g * val v ≤ val M + val v ∧ (val M : Int) < (g + 1) * val v) := ⟨Hexit.out g r hg0 hgb hrel.out.1 (by omega), hrel.out.2⟩
      clear hrel
      have hgv := zce hg0 hgb hv20 hv21
      have hgv0 := hgv.1
      have hgv1 := hgv.2
      clear hgv
      rcases hex with ⟨c1, c2⟩ | ⟨c1, c2, c3⟩
      · have c4 : decide (r < (1000000000 : Int)) = false := by simp; omega
        go_wp2
        go_quiet (fail)
        go_wp2
        have hO : Only G w (w.drewN (nn + nq)) := (Only.refl G w).drewN _
        clear hgv0 hgv1
        go_loopw [9, 87] (fun cr i wr => ∃ (i' : Nat) (M' : List Nat) (cy : Int), i' ≤ m + 2 ∧ i = .int .i64 (i' : Int) ∧ cr = .int .u64 cy ∧ 0 ≤ cy ∧ cy ≤ 999999999 ∧ Row wr G 94 (cel .u32 (P ++ M' ++ S)) ∧ Only G w wr ∧
            Hid (M'.length = m + 3 ∧ Lo M' ∧ (∀ j, i' ≤ j → M'.getD j 0 = M.getD j 0) ∧ (val (M'.take i') : Int) = val (M.take i') - g * val (v.take i') + cy * pw i')) (fun _ i _ => m + 2 - (intOf i).toNat)
        case atStart => exact ⟨0, M, 0, Nat.zero_le _, rfl, rfl, by omega, by omega, hr, hO, HMl.out, HM.out, fun _ _ => rfl, by simp [val]⟩
        case round =>
          obtain ⟨i, M', cy, hi, rfl, rfl, hcy0, hcy1, hr', hOw, hrel⟩ := hrel
          have hB' := hB.only hOw hG
          rcases Nat.lt_or_ge i (m + 2) with hlt | hge
          · obtain ⟨y, hy, hy0, hy1, hyc⟩ := zbl (j := i) Hv.out hB'.at_ (by have := Hvl.out; omega)
            obtain ⟨x, hx, hx0, hx1, hxc⟩ := hr'.mid hrel.out.2.1 (i := i) (by have := hrel.out.1; omega)
            have hxf := hr'.frozen (P.length + i)
            have hgy := zce hg0 hgb hy0 hy1
            have hgy0 := hgy.1
            have hgy1 := hgy.2
            clear hgy
            rcases Int.lt_or_le (x - (g * y + cy) % 1000000000) 0 with hneg | hpos
            · go_wp2
              go_roundw
              case rel =>
                exact ⟨i + 1, M'.set i (x - (g * y + cy) % 1000000000 + 1000000000).toNat, (g * y + cy) / 1000000000 + 1, by omega, by go_num, rfl, by omega, by omega, hr'.setMid (by have := hrel.out.1; omega) _ _ (by omega), hOw.setCell _ _,
                  by rw [List.length_set]; exact hrel.out.1, zcc hrel.out.2.1 (by omega), fun j hj => by rw [zbq (by omega)]; exact hrel.out.2.2.1 j (by omega),
                  dig_step (x := x) (y := y) (by have := hrel.out.1; omega) (by rw [← hrel.out.2.2.1 i (Nat.le_refl _)]; exact hx.out) hy.out (by omega) (by omega) hrel.out.2.2.2⟩
              case measure => simp [intOf]; omega
            · go_wp2
              go_roundw
              case rel =>
                exact ⟨i + 1, M'.set i (x - (g * y + cy) % 1000000000).toNat, (g * y + cy) / 1000000000, by omega, by go_num, rfl, by omega, by omega, hr'.setMid (by have := hrel.out.1; omega) _ _ (by omega), hOw.setCell _ _,
                  by rw [List.length_set]; exact hrel.out.1, zcc hrel.out.2.1 (by omega), fun j hj => by rw [zbq (by omega)]; exact hrel.out.2.2.1 j (by omega),
                  dig_step (x := x) (y := y) (by have := hrel.out.1; omega) (by rw [← hrel.out.2.2.1 i (Nat.le_refl _)]; exact hx.out) hy.out (by omega) (by omega) hrel.out.2.2.2⟩
              case measure => simp [intOf]; omega
          · obtain rfl : i = m + 2 := by omega
            obtain ⟨x, hx, hx0, hx1, hxc⟩ := hr'.mid hrel.out.2.1 (i := m + 2) (by have := hrel.out.1; omega)
            have hxf := hr'.frozen (P.length + (m + 2))
            have Hxu : Hid (x = u0) := by unfold Hid; rw [hx.out, hrel.out.2.2.1 _ (Nat.le_refl _), ← hu0e.out]
            have Hm := Lib.hid hrel.out.2.2.2
            have HML := Lib.hid hrel.out.1
            have HLo := Lib.hid hrel.out.2.1
            clear hrel
            have Hlt' : Hid ((val (M'.take (m + 2)) : Int) < pw (m + 2)) := by
              have h := zea (zdf HLo.out (m + 2)); rw [List.length_take, Nat.min_eq_left (by have := HML.out; omega)] at h; unfold Hid; omega
            rw [zav (l := v) (Nat.le_of_eq Hvl.out)] at Hm
            rcases Int.lt_or_le x cy with hxc1 | hxc1
            · have hgp : 1 ≤ g := dig_pos HU.out Hm.out Hlt'.out (by have := Hxu.out; omega) HQ.out hg0
              go_wp2
              go_loopw [14, 132] (fun mo i wr => ∃ (i' : Nat) (M2 : List Nat) (o : Int), i' ≤ m + 2 ∧ i = .int .i64 (i' : Int) ∧ mo = .int .u32 o ∧ 0 ≤ o ∧ o ≤ 1 ∧ Row wr G 94 (cel .u32 (P ++ M2 ++ S)) ∧ Only G w wr ∧
                  Hid (M2.length = m + 3 ∧ Lo M2 ∧ (∀ j, i' ≤ j → M2.getD j 0 = M'.getD j 0) ∧ (val (M2.take i') : Int) + o * pw i' = val (M'.take i') + val (v.take i'))) (fun _ i _ => m + 2 - (intOf i).toNat)
              case atStart => exact ⟨0, M', 0, Nat.zero_le _, rfl, rfl, by omega, by omega, hr', hOw, HML.out, HLo.out, fun _ _ => rfl, by simp [val]⟩
              case round =>
                clear hxc hxf hr' hOw hB'
                obtain ⟨i, M2, o, hi, rfl, rfl, ho0, ho1, hr2, hO2, hrel⟩ := hrel
                have hB2 := hB.only hO2 hG
                rcases Nat.lt_or_ge i (m + 2) with hlt | hge
                · obtain ⟨y, hy, hy0, hy1, hyc⟩ := zbl (j := i) Hv.out hB2.at_ (by have := Hvl.out; omega)
                  obtain ⟨z, hz, hz0, hz1, hzc⟩ := hr2.mid hrel.out.2.1 (i := i) (by have := hrel.out.1; omega)
                  have hzf := hr2.frozen (P.length + i)
                  rcases Int.lt_or_le (z + y + o) 1000000000 with hneg | hpos
                  · go_wp2
                    go_roundw
                    case rel =>
                      exact ⟨i + 1, M2.set i (z + y + o).toNat, 0, by omega, by go_num, rfl, by omega, by omega, hr2.setMid (by have := hrel.out.1; omega) _ _ (by omega), hO2.setCell _ _,
                        by rw [List.length_set]; exact hrel.out.1, zcc hrel.out.2.1 (by omega), fun j hj => by rw [zbq (by omega)]; exact hrel.out.2.2.1 j (by omega),
                        back_step (x := z) (y := y) (c := o) (by have := hrel.out.1; omega) (by rw [← hrel.out.2.2.1 i (Nat.le_refl _)]; exact hz.out) hy.out (by omega) (by omega) hrel.out.2.2.2⟩
                    case measure => simp [intOf]; omega
                  · go_wp2
                    go_roundw
                    case rel =>
                      exact ⟨i + 1, M2.set i (z + y + o - 1000000000).toNat, 1, by omega, by go_num, rfl, by omega, by omega, hr2.setMid (by have := hrel.out.1; omega) _ _ (by omega), hO2.setCell _ _,
                        by rw [List.length_set]; exact hrel.out.1, zcc hrel.out.2.1 (by omega), fun j hj => by rw [zbq (by omega)]; exact hrel.out.2.2.1 j (by omega),
                        back_step (x := z) (y := y) (c := o) (by have := hrel.out.1; omega) (by rw [← hrel.out.2.2.1 i (Nat.le_refl _)]; exact hz.out) hy.out (by omega) (by omega) hrel.out.2.2.2⟩
                    case measure => simp [intOf]; omega
                · obtain rfl : i = m + 2 := by omega
                  obtain ⟨z, hz, hz0, hz1, hzc⟩ := hr2.mid hrel.out.2.1 (i := m + 2) (by have := hrel.out.1; omega)
                  have hzf := hr2.frozen (P.length + (m + 2))
                  have h2 := hrel.out.2.2.2
                  rw [zav (l := v) (Nat.le_of_eq Hvl.out)] at h2
                  have hd := dig_back HU.out Hm.out Hlt'.out (by have := Hxu.out; omega) HVP.out hg0 Hg.out.1 h2 (by omega)
                    (by have h := zea (zdf hrel.out.2.1 (m + 2)); rw [List.length_take, Nat.min_eq_left (by have := hrel.out.1; omega)] at h; omega)
                  have Hd := Lib.hid hd
                  clear hd h2
                  go_wp2
                  go_ret
                  refine ⟨⟨M2.set (m + 2) 0, ?_, hr2.setMid (by have := hrel.out.1; omega) _ _ (by omega), by rw [List.length_set]; exact hrel.out.1, zcc hrel.out.2.1 (by omega), ?_⟩, hO2.setCell _ _⟩
                  · rw [Hd.out.2.1, Int.toNat_of_nonneg (by omega)]; rfl
                  · rw [val_set_top hrel.out.1]
                    have := Hd.out.2.2
                    omega
            · have hd := dig_exact HU.out Hm.out (by omega) Hlt'.out (by have := Hxu.out; omega) HVP.out hg0 Hg.out.2
              have Hd := Lib.hid hd
              clear hd
              go_wp2
              go_ret
              refine ⟨⟨M'.set (m + 2) 0, ?_, hr'.setMid (by have := HML.out; omega) _ _ (by omega), by rw [List.length_set]; exact HML.out, zcc HLo.out (by omega), ?_⟩, hOw.setCell _ _⟩
              · rw [Hd.out.1, Int.toNat_of_nonneg hg0]; rfl
              · rw [val_set_top HML.out]
                have := Hd.out.2
                omega
      · have c4 : decide ((1000000000 : Int) ≤ g) = false := by simp; omega
        have c5 : decide (r * 1000000000 + u2 < g * v2) = false := by simp; omega
        go_wp2
        go_quiet (fail)
        go_wp2
        have hO : Only G w (w.drewN (nn + nq)) := (Only.refl G w).drewN _
        clear hgv0 hgv1
        go_loopw [9, 87] (fun cr i wr => ∃ (i' : Nat) (M' : List Nat) (cy : Int), i' ≤ m + 2 ∧ i = .int .i64 (i' : Int) ∧ cr = .int .u64 cy ∧ 0 ≤ cy ∧ cy ≤ 999999999 ∧ Row wr G 94 (cel .u32 (P ++ M' ++ S)) ∧ Only G w wr ∧
            Hid (M'.length = m + 3 ∧ Lo M' ∧ (∀ j, i' ≤ j → M'.getD j 0 = M.getD j 0) ∧ (val (M'.take i') : Int) = val (M.take i') - g * val (v.take i') + cy * pw i')) (fun _ i _ => m + 2 - (intOf i).toNat)
        case atStart => exact ⟨0, M, 0, Nat.zero_le _, rfl, rfl, by omega, by omega, hr, hO, HMl.out, HM.out, fun _ _ => rfl, by simp [val]⟩
        case round =>
          obtain ⟨i, M', cy, hi, rfl, rfl, hcy0, hcy1, hr', hOw, hrel⟩ := hrel
          have hB' := hB.only hOw hG
          rcases Nat.lt_or_ge i (m + 2) with hlt | hge
          · obtain ⟨y, hy, hy0, hy1, hyc⟩ := zbl (j := i) Hv.out hB'.at_ (by have := Hvl.out; omega)
            obtain ⟨x, hx, hx0, hx1, hxc⟩ := hr'.mid hrel.out.2.1 (i := i) (by have := hrel.out.1; omega)
            have hxf := hr'.frozen (P.length + i)
            have hgy := zce hg0 hgb hy0 hy1
            have hgy0 := hgy.1
            have hgy1 := hgy.2
            clear hgy
            rcases Int.lt_or_le (x - (g * y + cy) % 1000000000) 0 with hneg | hpos
            · go_wp2
              go_roundw
              case rel =>
                exact ⟨i + 1, M'.set i (x - (g * y + cy) % 1000000000 + 1000000000).toNat, (g * y + cy) / 1000000000 + 1, by omega, by go_num, rfl, by omega, by omega, hr'.setMid (by have := hrel.out.1; omega) _ _ (by omega), hOw.setCell _ _,
                  by rw [List.length_set]; exact hrel.out.1, zcc hrel.out.2.1 (by omega), fun j hj => by rw [zbq (by omega)]; exact hrel.out.2.2.1 j (by omega),
                  dig_step (x := x) (y := y) (by have := hrel.out.1; omega) (by rw [← hrel.out.2.2.1 i (Nat.le_refl _)]; exact hx.out) hy.out (by omega) (by omega) hrel.out.2.2.2⟩
              case measure => simp [intOf]; omega
            · go_wp2
              go_roundw
              case rel =>
                exact ⟨i + 1, M'.set i (x - (g * y + cy) % 1000000000).toNat, (g * y + cy) / 1000000000, by omega, by go_num, rfl, by omega, by omega, hr'.setMid (by have := hrel.out.1; omega) _ _ (by omega), hOw.setCell _ _,
                  by rw [List.length_set]; exact hrel.out.1, zcc hrel.out.2.1 (by omega), fun j hj => by rw [zbq (by omega)]; exact hrel.out.2.2.1 j (by omega),
                  dig_step (x := x) (y := y) (by have := hrel.out.1; omega) (by rw [← hrel.out.2.2.1 i (Nat.le_refl _)]; exact hx.out) hy.out (by omega) (by omega) hrel.out.2.2.2⟩
              case measure => simp [intOf]; omega
          · obtain rfl : i = m + 2 := by omega
            obtain ⟨x, hx, hx0, hx1, hxc⟩ := hr'.mid hrel.out.2.1 (i := m + 2) (by have := hrel.out.1; omega)
            have hxf := hr'.frozen (P.length + (m + 2))
            have Hxu : Hid (x = u0) := by unfold Hid; rw [hx.out, hrel.out.2.2.1 _ (Nat.le_refl _), ← hu0e.out]
            have Hm := Lib.hid hrel.out.2.2.2
            have HML := Lib.hid hrel.out.1
            have HLo := Lib.hid hrel.out.2.1
            clear hrel
            have Hlt' : Hid ((val (M'.take (m + 2)) : Int) < pw (m + 2)) := by
              have h := zea (zdf HLo.out (m + 2)); rw [List.length_take, Nat.min_eq_left (by have := HML.out; omega)] at h; unfold Hid; omega
            rw [zav (l := v) (Nat.le_of_eq Hvl.out)] at Hm
            rcases Int.lt_or_le x cy with hxc1 | hxc1
            · have hgp : 1 ≤ g := dig_pos HU.out Hm.out Hlt'.out (by have := Hxu.out; omega) HQ.out hg0
              go_wp2
              go_loopw [14, 132] (fun mo i wr => ∃ (i' : Nat) (M2 : List Nat) (o : Int), i' ≤ m + 2 ∧ i = .int .i64 (i' : Int) ∧ mo = .int .u32 o ∧ 0 ≤ o ∧ o ≤ 1 ∧ Row wr G 94 (cel .u32 (P ++ M2 ++ S)) ∧ Only G w wr ∧
                  Hid (M2.length = m + 3 ∧ Lo M2 ∧ (∀ j, i' ≤ j → M2.getD j 0 = M'.getD j 0) ∧ (val (M2.take i') : Int) + o * pw i' = val (M'.take i') + val (v.take i'))) (fun _ i _ => m + 2 - (intOf i).toNat)
              case atStart => exact ⟨0, M', 0, Nat.zero_le _, rfl, rfl, by omega, by omega, hr', hOw, HML.out, HLo.out, fun _ _ => rfl, by simp [val]⟩
              case round =>
                clear hxc hxf hr' hOw hB'
                obtain ⟨i, M2, o, hi, rfl, rfl, ho0, ho1, hr2, hO2, hrel⟩ := hrel
                have hB2 := hB.only hO2 hG
                rcases Nat.lt_or_ge i (m + 2) with hlt | hge
                · obtain ⟨y, hy, hy0, hy1, hyc⟩ := zbl (j := i) Hv.out hB2.at_ (by have := Hvl.out; omega)
                  obtain ⟨z, hz, hz0, hz1, hzc⟩ := hr2.mid hrel.out.2.1 (i := i) (by have := hrel.out.1; omega)
                  have hzf := hr2.frozen (P.length + i)
                  rcases Int.lt_or_le (z + y + o) 1000000000 with hneg | hpos
                  · go_wp2
                    go_roundw
                    case rel =>
                      exact ⟨i + 1, M2.set i (z + y + o).toNat, 0, by omega, by go_num, rfl, by omega, by omega, hr2.setMid (by have := hrel.out.1; omega) _ _ (by omega), hO2.setCell _ _,
                        by rw [List.length_set]; exact hrel.out.1, zcc hrel.out.2.1 (by omega), fun j hj => by rw [zbq (by omega)]; exact hrel.out.2.2.1 j (by omega),
                        back_step (x := z) (y := y) (c := o) (by have := hrel.out.1; omega) (by rw [← hrel.out.2.2.1 i (Nat.le_refl _)]; exact hz.out) hy.out (by omega) (by omega) hrel.out.2.2.2⟩
                    case measure => simp [intOf]; omega
                  · go_wp2
                    go_roundw
                    case rel =>
                      exact ⟨i + 1, M2.set i (z + y + o - 1000000000).toNat, 1, by omega, by go_num, rfl, by omega, by omega, hr2.setMid (by have := hrel.out.1; omega) _ _ (by omega), hO2.setCell _ _,
                        by rw [List.length_set]; exact hrel.out.1, zcc hrel.out.2.1 (by omega), fun j hj => by rw [zbq (by omega)]; exact hrel.out.2.2.1 j (by omega),
                        back_step (x := z) (y := y) (c := o) (by have := hrel.out.1; omega) (by rw [← hrel.out.2.2.1 i (Nat.le_refl _)]; exact hz.out) hy.out (by omega) (by omega) hrel.out.2.2.2⟩
                    case measure => simp [intOf]; omega
                · obtain rfl : i = m + 2 := by omega
                  obtain ⟨z, hz, hz0, hz1, hzc⟩ := hr2.mid hrel.out.2.1 (i := m + 2) (by have := hrel.out.1; omega)
                  have hzf := hr2.frozen (P.length + (m + 2))
                  have h2 := hrel.out.2.2.2
                  rw [zav (l := v) (Nat.le_of_eq Hvl.out)] at h2
                  have hd := dig_back HU.out Hm.out Hlt'.out (by have := Hxu.out; omega) HVP.out hg0 Hg.out.1 h2 (by omega)
                    (by have h := zea (zdf hrel.out.2.1 (m + 2)); rw [List.length_take, Nat.min_eq_left (by have := hrel.out.1; omega)] at h; omega)
                  have Hd := Lib.hid hd
                  clear hd h2
                  go_wp2
                  go_ret
                  refine ⟨⟨M2.set (m + 2) 0, ?_, hr2.setMid (by have := hrel.out.1; omega) _ _ (by omega), by rw [List.length_set]; exact hrel.out.1, zcc hrel.out.2.1 (by omega), ?_⟩, hO2.setCell _ _⟩
                  · rw [Hd.out.2.1, Int.toNat_of_nonneg (by omega)]; rfl
                  · rw [val_set_top hrel.out.1]
                    have := Hd.out.2.2
                    omega
            · have hd := dig_exact HU.out Hm.out (by omega) Hlt'.out (by have := Hxu.out; omega) HVP.out hg0 Hg.out.2
              have Hd := Lib.hid hd
              clear hd
              go_wp2
              go_ret
              refine ⟨⟨M'.set (m + 2) 0, ?_, hr'.setMid (by have := HML.out; omega) _ _ (by omega), by rw [List.length_set]; exact HML.out, zcc HLo.out (by omega), ?_⟩, hOw.setCell _ _⟩
              · rw [Hd.out.1, Int.toNat_of_nonneg hg0]; rfl
              · rw [val_set_top HML.out]
                have := Hd.out.2
                omega
theorem digit_at (G off N1 N : Nat) (P M S : List Nat) (B : Option Addr) (c d m : Nat) (v : List Nat) (w : World) (lo hi : Nat) (hoff : P.length = off) (hN1 : N1 = m + 3) (hN : N = m + 2) (hv : Lo v) (hM : Lo M) (hvl : v.length = m + 2) (hMl : M.length = m + 3) (hm : m ≤ 8589934592)
    (hP : P.length ≤ 8589934592) (hc : m + 3 ≤ c) (hv1 : 1 ≤ v.getD (m + 1) 0) (hlt : val M < val v * 1000000000) (hr : Row w G 94 (cel .u32 (P ++ M ++ S))) (hB : SV w lo hi B (cel .u32 v)) (hG : G < lo ∨ hi ≤ G) :
    Calls Tryd.prog 146 #[.slice (some ⟨G, off, none⟩) N1 c, .slice B N d] w fun e w' => (∃ M', e = .returned (.int .u32 ((val M / val v : Nat) : Int)) ∧ Row w' G 94 (cel .u32 (P ++ M' ++ S)) ∧ M'.length = m + 3 ∧ Lo M' ∧ val M' = val M % val v) ∧ Only G w w' := by
  subst hoff
  subst hN1
  subst hN
  exact digit_list G P M S B c d m v w lo hi hv hM hvl hMl hm hP hc hv1 hlt hr hB hG
set_option maxRecDepth 100000 in
set_option maxHeartbeats 1000000 in
theorem div_n {w : World} {va vb : Value} {x y lo hi lo' hi' : Nat} (ha : IsN w lo hi va x) (hb : IsN w lo' hi' vb y) (hi1 : hi ≤ w.heap.size) (hi2 : hi' ≤ w.heap.size) (hx : (lim x).length ≤ 4294967296) (hy : (lim y).length ≤ 4294967296) (hy0 : 0 < y) :
    Calls Tryd.prog 136 #[va, vb] w fun e w' => (∃ q r, e = .returned (.tuple #[q, r]) ∧ IsN w' w.heap.size w'.heap.size q (x / y) ∧ IsN w' w.heap.size w'.heap.size r (x % y)) ∧ Below w.heap.size w w' := by
  have Ha := Lib.hid ha
  have Hb := Lib.hid hb
  obtain ⟨A, c, rfl, hac, hcm, hA⟩ := ha
  obtain ⟨B, d, rfl, hbd, hdm, hB⟩ := hb
  rcases Nat.lt_or_ge x y with hxy | hxy
  · have Hq : Hid (x / y = 0 ∧ x % y = x) := ⟨Nat.div_eq_of_lt hxy, Nat.mod_eq_of_lt hxy⟩
    have Hs : Hid (sgn x y = -1) := sgn_lt hxy
    go_enter Tryd.func136, Tryd.ntmps136
    go_wp2_with fail
    refine (cmp_n Ha.out Hb.out).mono ?_
    rw [Hs.out]
    rintro e w1 ⟨rfl, n, rfl⟩
    go_wp2_with fail
    refine (copy_n (Ha.out.drewN n) hx).mono ?_
    rintro e w2 ⟨⟨v, rfl, hv⟩, hb2⟩
    go_wp2_with fail
    go_ret2
    refine ⟨⟨_, _, rfl, ?_, ?_⟩, ((Below.refl _ w).trans (below_drewN (Below.refl _ _) n)).trans hb2⟩
    · rw [Hq.out.1]; exact IsN.zero
    · rw [Hq.out.2]; exact hv
  · have Hs : Hid (0 ≤ sgn x y) := by unfold Hid sgn; split <;> (try split) <;> omega
    by_cases hb1 : (lim y).length = 1
    · obtain ⟨bb, ob, rfl, _, _, hcb⟩ := hB (zbm (j := 0) (by omega))
      obtain ⟨x0, hx0, hx00, hx01, hx0c⟩ := zbl (j := 0) (zbh y) hcb (by omega)
      clear hcb
      rw [Nat.add_zero] at hx0c
      have hxy0 : x0 = (y : Int) := by
        rw [hx0.out]
        have h := zbf y
        match hl : lim y, hb1 with
        | [z], _ => rw [hl] at h; simp [val] at h; simp [h]
      have Hxy0 := Lib.hid hxy0
      have hx01' : 1 ≤ x0 := by omega
      clear hxy0
      have Hb1 := Lib.hid hb1
      have hb1a : (lim y).length ≤ 1 := by omega
      have hb1b : 1 ≤ (lim y).length := by omega
      clear hb1
      go_enter Tryd.func136, Tryd.ntmps136
      go_wp2_with fail
      refine (cmp_n Ha.out Hb.out).mono ?_
      generalize sgn x y = sg at *
      have hs := Hs.out
      rintro e w1 ⟨rfl, n, rfl⟩
      go_wp2_with fail
      refine (short_n (Ha.out.drewN n) hi1 hx hx01' hx01).mono ?_
      rintro e w2 ⟨⟨v, rm, rfl, hrm0, hrm1, hrm, hv⟩, hb2⟩
      go_wp2_with fail
      refine (of_i _ _ hrm0 (by omega)).mono ?_
      rintro e w3 ⟨⟨v3, rfl, hv3⟩, hb3⟩
      go_wp2_with fail
      go_ret2
      have hy2 : x0.toNat = y := by have := Hxy0.out; omega
      rw [hrm.out, hy2] at hv3
      rw [hy2] at hv
      have hbw2 : Below w.heap.size w w2 := (below_drewN (Below.refl _ w) n).trans hb2
      have hz2 := hbw2.size
      have hz3 := hb3.size
      exact ⟨⟨_, _, rfl, (hv.below hb3 (Nat.le_refl _)).wide (Nat.le_refl _) hz3, hv3.wide hz2 (Nat.le_refl _)⟩, hbw2.trans (hb3.mono hz2)⟩
    · obtain ⟨m, hm⟩ : ∃ m, (lim y).length = m + 2 := by
        refine ⟨(lim y).length - 2, ?_⟩
        have : (lim y).length ≠ 0 := by rw [ne_eq, lim_nil_iff]; omega
        omega
      obtain ⟨k, hk⟩ : ∃ k, (lim x).length = m + 2 + k := ⟨(lim x).length - (m + 2), by have := zas hxy; omega⟩
      rw [hm] at hbd hy
      rw [hk] at hac hx
      have hbn : (((m : Int) + 2) == 1) = false := beq_eq_false_iff_ne.2 (by omega)
      obtain ⟨bb, ob, rfl, _, _, hcb⟩ := hB (zbm (j := m + 1) (by omega))
      obtain ⟨b1, hb1e, hb10, hb11, hb1c⟩ := zbl (j := m + 1) (zbh y) hcb (by omega)
      clear hcb hb1
      have hb12 : 1 ≤ b1 := by have := top_pos (zbh y) hm (by rw [zbf]; exact lim_len_lt.1 (by omega)); have := hb1e.out; omega
      have hF := factor_facts (zbh y) hm hb1e.out hb12 hb11
      have hF1 := hF.1
      have hF2 := hF.2.1
      have HF := Lib.hid hF.2.2
      clear hF
      have Hfx : Hid (val (lim x) * (1000000000 / (b1 + 1)).toNat < pw (m + 2 + k + 1)) := by
        have h1 := lim_lt x
        rw [hk] at h1
        rw [zbf, Hid, zby, Nat.mul_comm 1000000000]
        exact Nat.lt_of_le_of_lt (Nat.mul_le_mul_left x (show (1000000000 / (b1 + 1)).toNat ≤ 1000000000 by omega)) (Nat.mul_lt_mul_of_pos_right h1 (by omega))
      have Hk := Lib.hid hk
      have Hm := Lib.hid hm
      clear hk hm
      rw [Hk.out] at Ha ⊢
      rw [Hm.out] at Hb ⊢
      go_enter Tryd.func136, Tryd.ntmps136
      go_wp2_with fail
      refine (cmp_n Ha.out Hb.out).mono ?_
      generalize sgn x y = sg at *
      have hs := Hs.out
      rintro e w1 ⟨rfl, n, rfl⟩
      go_wp2_with fail
      have hF3 : 0 ≤ 1000000000 / (b1 + 1) := by omega
      rw [zbf] at HF Hfx
      generalize hFe : 1000000000 / (b1 + 1) = F at *
      have HFe := Lib.hid hFe
      clear hFe
      refine (times_n (Ha.out.drewN n) hi1 (m + 2 + k + 1) (by omega) (by rw [Hk.out]; omega) (by omega) hF3 hF2 Hfx.out).mono ?_
      rintro e w2 ⟨⟨Gu, Lu, rfl, hGu, hrU, hLul, hLuo, hLuv⟩, hb2⟩
      have HLu := Lib.hid (And.intro hLul (And.intro hLuo hLuv))
      clear hLul hLuo hLuv
      have hbw2 : Below w.heap.size w w2 := (below_drewN (Below.refl _ w) n).trans hb2
      have hz2 := hbw2.size
      have hGu2 := hrU.lt
      go_wp2_with fail
      refine (times_n (Hb.out.below hbw2 hi2) (Nat.le_trans hi2 hz2) (m + 2) (by omega) (by rw [Hm.out]; omega) (by omega) hF3 hF2 HF.out).mono ?_
      rintro e w3 ⟨⟨Gv, Lv, rfl, hGv, hrV, hLvl, hLvo, hLvv⟩, hb3⟩
      have HLv := Lib.hid (And.intro hLvl (And.intro hLvo hLvv))
      clear hLvl hLvo hLvv
      have hrU3 := hrU.below hb3 hGu2
      clear hrU
      have hbw3 : Below w.heap.size w w3 := hbw2.trans (hb3.mono hz2)
      have hz3 := hbw3.size
      have hGv3 := hrV.lt
      go_wp2_with (at_make; refine wp_make elN rfl _ _ rfl (k + 1) rfl rfl (by omega) (by omega) (by omega) ?_; intro Gq w4 hGq hrq hb4 hz4)
      have hGuw : w.heap.size ≤ Gu := hGu
      have hGqv : w3.heap.size ≤ Gq := by have := hGq.out; omega
      have hb4' : Below w.heap.size w w4 := hbw3.trans (hb4.mono (by omega))
      have HV : Hid (val Lv = y * F.toNat ∧ 0 < val Lv ∧ val Lv ≤ pw (m + 2) ∧ 1 ≤ Lv.getD (m + 1) 0) := by
        have h1 := HLv.out.2.2
        have h2 : pw (m + 1) ≤ y := lim_len_lt.1 (by rw [Hm.out]; omega)
        have h3 : y * 1 ≤ y * F.toNat := Nat.mul_le_mul_left y (by omega)
        refine ⟨h1, by omega, ?_, top_pos HLv.out.2.1 HLv.out.1 (by omega)⟩
        have := zea HLv.out.2.1
        rw [HLv.out.1] at this
        omega
      go_loopw [12] (fun j wr => ∃ (i : Nat) (L Q : List Nat), i ≤ k + 1 ∧ j = .int .i64 ((i : Int) - 1) ∧ Row wr Gu 94 (cel .u32 L) ∧ Row wr Gv 94 (cel .u32 Lv) ∧ Row wr Gq 94 (cel .u32 Q) ∧ Below w.heap.size w wr ∧
          Hid (L.length = m + 2 + k + 1 ∧ Lo L ∧ Q.length = k + 1 ∧ Lo Q ∧ (∀ j, j < i → Q.getD j 0 = 0) ∧ val (L.drop i) < val Lv ∧ val L + val Lv * val Q = x * F.toNat)) (fun j _ => (intOf j + 1).toNat)
      case atStart =>
        refine ⟨k + 1, Lu, _, Nat.le_refl _, int_eq (by omega), hrU3.below hb4 (by omega), hrV.below hb4 (by omega), hrq, hb4', HLu.out.1, HLu.out.2.1, by simp, zcq _, ?_, ?_, ?_⟩
        · intro j _
          rw [List.getD_eq_getElem?_getD, List.getElem?_replicate]
          split <;> rfl
        · rw [HV.out.1]
          exact div_start HLu.out.1 HLu.out.2.2 (by have := lim_lt x; rw [Hk.out] at this; exact this) (lim_len_lt.1 (by rw [Hm.out]; omega)) (by omega)
        · rw [HLu.out.2.2, val_zeros (l := List.replicate (k + 1) 0) (fun x hx => (List.mem_replicate.1 hx).2), Nat.mul_zero, Nat.add_zero]
      case round =>
        clear hb1c hrU3 hrV hrq hb2 hb3 hb4 hb4'
        obtain ⟨i, L, Q, hi, rfl, hrU, hrV, hrq, hbw, hrel⟩ := hrel
        rcases i with _ | i
        · have hV0 : val L < val Lv := by have := hrel.out.2.2.2.2.2.1; rw [List.drop_zero] at this; exact this
          have hVL : val L + val Lv * val Q = x * F.toNat := hrel.out.2.2.2.2.2.2
          rw [HV.out.1] at hV0 hVL
          have he := div_end (by omega) hV0 hVL
          have Ht : Hid (val (L.take (m + 2)) = val L) := by
            have h1 := zdk L (m + 2) (by have := hrel.out.1; omega)
            rcases Nat.eq_zero_or_pos (val (L.drop (m + 2))) with h0 | h0
            · rw [h0, Nat.mul_zero, Nat.add_zero] at h1; exact h1.symm
            · have := Nat.mul_le_mul_left (pw (m + 2)) h0
              have h2 := HV.out.2.2.1
              have h3 := hrel.out.2.2.2.2.2.1
              rw [List.drop_zero] at h3
              omega
          have He := Lib.hid he
          clear hV0 hVL he
          go_wp2_with fail
          have hLt : IsL .u32 wr Gu (Gu + 1) (.slice (some ⟨Gu, 0, none⟩) (m + 2) (m + 2 + k + 1)) (L.take (m + 2)) :=
            ⟨_, _, by rw [List.length_take, Nat.min_eq_left (by have := hrel.out.1; omega)], by rw [List.length_take]; omega, by unfold maxLen; omega, by rw [cel_take]; exact hrU.sv.take _⟩
          refine (trim_l hLt (zdf hrel.out.2.1 _)).mono ?_
          rintro e w5 ⟨⟨v5, rfl, hv5⟩, rfl⟩
          rw [Ht.out] at hv5
          have hGuL := hrU.lt
          go_wp2_with fail
          refine (short_n hv5 (by omega) (by have := lim_val_len (zdf hrel.out.2.1 (m + 2)); rw [Ht.out, List.length_take] at this; omega) hF1 hF2).mono ?_
          rintro e w6 ⟨⟨v6, r6, rfl, _, _, _, hv6⟩, hb6⟩
          rw [He.out.2] at hv6
          go_wp2_with fail
          have hrq6 := hrq.below hb6 hrq.lt
          have hz5 := hbw.size
          have hz6 := hb6.size
          have hLq : IsL .u32 w6 Gq (Gq + 1) (.slice (some ⟨Gq, 0, none⟩) (k + 1) (k + 1)) Q := ⟨_, _, by rw [hrel.out.2.2.1], by have := hrel.out.2.2.1; omega, by unfold maxLen; omega, hrq6.sv⟩
          refine (trim_l hLq hrel.out.2.2.2.1).mono ?_
          rintro e w7 ⟨⟨v7, rfl, hv7⟩, rfl⟩
          rw [He.out.1] at hv7
          have hGqL := hrq6.lt
          go_wp2_with fail
          go_ret2
          exact ⟨⟨_, _, rfl, hv7.wide (by omega) hGqL, hv6.wide hz5 (Nat.le_refl _)⟩, hbw.trans (hb6.mono hz5)⟩
        · have hds := div_split hrel.out.2.1 (j := i) (n := m + 2) (by have := hrel.out.1; omega) HV.out.2.2.1 hrel.out.2.2.2.2.2.1
          have Hds := Lib.hid hds
          clear hds
          rw [show (((i + 1 : Nat) : Int) - 1) = (i : Int) from by omega]
          have hrU' : Row wr Gu 94 (cel .u32 (L.take i ++ (L.drop i).take (m + 2 + 1) ++ L.drop (i + (m + 2) + 1))) := by
            have e : L.take i ++ (L.drop i).take (m + 2 + 1) ++ L.drop (i + (m + 2) + 1) = L := by
              rw [List.append_assoc, show i + (m + 2) + 1 = i + (m + 2 + 1) by omega, ← List.drop_drop, List.take_append_drop, List.take_append_drop]
            rw [e]
            exact hrU
          go_wp2_with fail
          refine (digit_at Gu i _ _ (L.take i) ((L.drop i).take (m + 2 + 1)) (L.drop (i + (m + 2) + 1)) _ _ _ m Lv wr Gv (Gv + 1) (by rw [List.length_take]; have := hrel.out.1; omega) (by omega) (by omega) HLv.out.2.1 (zdf (lo_drop hrel.out.2.1 _) _) HLv.out.1
            (by rw [List.length_take, List.length_drop]; have := hrel.out.1; omega) (by omega) (by rw [List.length_take]; omega) (by omega) HV.out.2.2.2 Hds.out.1 hrU' hrV.sv (by omega)).mono ?_
          rintro e w5 ⟨⟨M', rfl, hrU5, hM'l, hM'o, hM'v⟩, hO5⟩
          have HM' := Lib.hid (And.intro hM'l (And.intro hM'o hM'v))
          clear hM'l hM'o hM'v
          have hrV5 := hrV.only hO5 (by omega)
          have hrq5 := hrq.only hO5 (by omega)
          have hbw5 := hbw.trans (hO5.below hGuw)
          have Hqd : Hid (val ((L.drop i).take (m + 2 + 1)) / val Lv < 1000000000) := Nat.div_lt_of_lt_mul (by have := Hds.out.1; exact this)
          generalize hqd : val ((L.drop i).take (m + 2 + 1)) / val Lv = qd at *
          have HQd := Lib.hid hqd
          clear hqd
          generalize hqi : (qd : Int) = qi at *
          have HQi := Lib.hid hqi
          clear hqi
          have hqi0 : 0 ≤ qi := by have := HQi.out; omega
          have hqi1 : qi ≤ 999999999 := by have := HQi.out; have := Hqd.out; omega
          obtain ⟨z, hz, hz0, hzc⟩ := hrq5.num (i := i) (by rw [hrel.out.2.2.1]; exact hi)
          have hzf := hrq5.frozen i
          clear hrU hrU' hrV hrq
          go_wp2
          go_roundw
          case rel =>
            have hst := div_step hrel.out.2.1 (j := i) (n := m + 2) (M' := M') (Lq := Q) (by have := hrel.out.1; omega) HV.out.2.2.1 HV.out.2.1 hrel.out.2.2.2.2.2.1 HM'.out.2.2 HM'.out.1 (by rw [hrel.out.2.2.1]; exact hi) (hrel.out.2.2.2.2.1 i (by omega)) hrel.out.2.2.2.2.2.2
            rw [HQd.out] at hst
            refine ⟨i, _, Q.set i qd, by omega, rfl, hrU5.far (by show Gu ≠ Gq; omega) _, hrV5.far (by show Gv ≠ Gq; omega) _, hrq5.setNum i qd _ HQi.out.symm, hbw5.setCell (by show w.heap.size ≤ Gq; omega) _, ?_, ?_, ?_, ?_, ?_, hst.1, hst.2⟩
            · simp only [List.length_append, List.length_take, List.length_drop, HM'.out.1]
              have := hrel.out.1
              omega
            · rw [lo_append, lo_append]
              exact ⟨⟨zdf hrel.out.2.1 _, HM'.out.2.1⟩, lo_drop hrel.out.2.1 _⟩
            · rw [List.length_set]; exact hrel.out.2.2.1
            · exact zcc hrel.out.2.2.2.1 Hqd.out
            · intro j hj
              rw [zbq (by omega)]
              exact hrel.out.2.2.2.2.1 j (by omega)
          case measure => simp [intOf]
def chk (l : List Nat) : Int := if 1024 < l.length then 4 else if l.any (fun x => decide (1000000000 ≤ x)) then 3 else if l.getLastD 1 = 0 then 3 else 0
theorem chk_long {l : List Nat} (h : 1024 < l.length) : chk l = 4 := by unfold chk; rw [if_pos h]
theorem chk_big {l : List Nat} (h : ¬ 1024 < l.length) {x : Nat} (hx : x ∈ l) (hb : 1000000000 ≤ x) : chk l = 3 := by
  unfold chk
  rw [if_neg h, if_pos]
  rw [List.any_eq_true]
  exact ⟨x, hx, by simpa using hb⟩
theorem chk_lo {l : List Nat} (h : ¬ 1024 < l.length) (hl : Lo l) : chk l = if l.getLastD 1 = 0 then 3 else 0 := by
  unfold chk
  rw [if_neg h, if_neg]
  rw [List.any_eq_true]
  rintro ⟨x, hx, hb⟩
  have := hl x hx
  simp at hb
  omega
theorem chk_ok {l : List Nat} (h : chk l = 0) : l.length ≤ 1024 ∧ Lo l ∧ l = lim (val l) := by
  unfold chk at h
  split at h
  · omega
  · split at h
    · omega
    · rename_i h1 h2
      split at h
      · omega
      · rename_i h3
        have hl : Lo l := by
          intro x hx
          rcases Nat.lt_or_ge x 1000000000 with h4 | h4
          · exact h4
          · exact absurd (List.any_eq_true.2 ⟨x, hx, by simpa using h4⟩) h2
        exact ⟨by omega, hl, (lim_val_of hl h3).symm⟩
theorem chk_lim {n : Nat} (h : (lim n).length ≤ 1024) : chk (lim n) = 0 := by
  rw [chk_lo (by omega) (zbh n), if_neg (last_lim n)]
theorem last_getD {l : List Nat} (h : 0 < l.length) : l.getLastD 1 = l.getD (l.length - 1) 0 := by
  rw [List.getLastD_eq_getLast?, List.getLast?_eq_getElem?, List.getD_eq_getElem?_getD, List.getElem?_eq_getElem (by omega)]
  rfl
theorem getD_mem {l : List Nat} {k : Nat} (h : k < l.length) : l.getD k 0 ∈ l := by
  rw [List.getD_eq_getElem?_getD, List.getElem?_eq_getElem h]
  exact List.getElem_mem h
theorem lo_of_getD {l : List Nat} (h : ∀ j, j < l.length → l.getD j 0 < 1000000000) : Lo l := by
  intro x hx
  obtain ⟨j, hj, rfl⟩ := List.getElem_of_mem hx
  have := h j hj
  rw [List.getD_eq_getElem?_getD, List.getElem?_eq_getElem hj] at this
  exact this
set_option maxHeartbeats 400000 in
theorem check_l {w : World} {va : Value} {l : List Nat} {lo hi : Nat} (ha : IsL .u32 w lo hi va l) :
    Calls Tryd.prog 140 #[va] w fun e w' => e = .returned (.int .i64 (chk l)) ∧ w = w' := by
  obtain ⟨A, c, rfl, hc, hcm, hA⟩ := ha
  by_cases hlong : 1024 < l.length
  · have H := Lib.hid (chk_long hlong)
    go_enter Tryd.func140, Tryd.ntmps140
    go_wp2
    go_ret
    exact ⟨zbb H.out.symm, rfl⟩
  · go_enter Tryd.func140, Tryd.ntmps140
    go_wp2
    go_loop [10] (fun i => ∃ k : Nat, k ≤ l.length ∧ i = .int .i64 k ∧ Hid (∀ j, j < k → l.getD j 0 < 1000000000)) (fun i => l.length - (intOf i).toNat)
    case atStart => exact ⟨0, Nat.zero_le _, rfl, fun j hj => by omega⟩
    case round =>
      obtain ⟨k, hk, rfl, hall⟩ := hrel
      by_cases hlt : k < l.length
      · obtain ⟨b, off, rfl, _, _, hca⟩ := hA (zbm (j := k) hlt)
        obtain ⟨x, hx, hx0, hck⟩ := zen (j := k) hca hlt
        clear hca
        rcases Int.lt_or_le x 1000000000 with hx1 | hx1
        · go_wp2
          go_round
          case rel =>
            refine ⟨k + 1, hlt, by go_num, ?_⟩
            intro j hj
            rcases Nat.lt_or_ge j k with h | h
            · exact hall.out j h
            · obtain rfl : j = k := by omega
              have := hx.out
              omega
          case measure => simp [intOf]; omega
        · have H := Lib.hid (chk_big hlong (getD_mem hlt) (by have := hx.out; omega))
          go_wp2
          go_ret
          exact ⟨zbb H.out.symm, rfl⟩
      · obtain rfl : k = l.length := by omega
        have hL := Lib.hid (chk_lo hlong (lo_of_getD hall.out))
        clear hall
        by_cases h0 : 0 < l.length
        · obtain ⟨b, off, rfl, _, _, hca⟩ := hA (zbm (j := l.length - 1) (by omega))
          obtain ⟨x, hx, hx0, hck⟩ := zen (j := l.length - 1) hca (by omega)
          clear hca
          have hlast := Lib.hid (last_getD h0)
          by_cases hxz : x = 0
          · subst hxz
            have H : Hid (chk l = 3) := by unfold Hid; rw [hL.out, if_pos]; rw [hlast.out]; have := hx.out; omega
            go_wp2
            go_ret
            exact ⟨zbb H.out.symm, rfl⟩
          · have hb : (x == 0) = false := beq_eq_false_iff_ne.2 hxz
            have H : Hid (chk l = 0) := by unfold Hid; rw [hL.out, if_neg]; rw [hlast.out]; have := hx.out; omega
            clear hxz
            go_wp2
            go_ret
            exact ⟨zbb H.out.symm, rfl⟩
        · have e : l = [] := List.eq_nil_of_length_eq_zero (by omega)
          subst e
          have H : Hid (chk [] = 0) := by show chk [] = 0; decide
          go_wp2
          go_ret
          exact ⟨zbb H.out.symm, rfl⟩
theorem IsL.alloc {k : IntKind} {w : World} {lo hi : Nat} {v : Value} {l : List Nat} (h : IsL k w lo hi v l) (hi1 : hi ≤ w.heap.size) (o : Obj) : IsL k (w.alloc o) lo hi v l :=
  h.below ((Below.refl _ _).alloc (Nat.le_refl _) o) hi1
theorem IsN.alloc {w : World} {lo hi : Nat} {v : Value} {n : Nat} (h : IsN w lo hi v n) (hi1 : hi ≤ w.heap.size) (o : Obj) : IsN (w.alloc o) lo hi v n := IsL.alloc h hi1 o
theorem IsL.isN {w : World} {lo hi : Nat} {v : Value} {l : List Nat} (h : IsL .u32 w lo hi v l) (hc : chk l = 0) : IsN w lo hi v (val l) := by
  unfold IsN
  rw [← (chk_ok hc).2.2]
  exact h
theorem chk_len {l : List Nat} (hc : chk l = 0) : (lim (val l)).length ≤ 1024 := by
  rw [← (chk_ok hc).2.2]
  exact (chk_ok hc).1
theorem eq_of_getD {a b : List Nat} (hl : a.length = b.length) (h : ∀ j, j < a.length → a.getD j 0 = b.getD j 0) : a = b := by
  apply List.ext_getElem hl
  intro j h1 h2
  have := h j h1
  rw [List.getD_eq_getElem?_getD, List.getD_eq_getElem?_getD, List.getElem?_eq_getElem h1, List.getElem?_eq_getElem h2] at this
  exact this
set_option maxHeartbeats 400000 in
theorem alike_l {w : World} {va vb : Value} {a b : List Nat} {lo hi lo' hi' : Nat} (ha : IsL .u32 w lo hi va a) (hb : IsL .u32 w lo' hi' vb b) :
    Calls Tryd.prog 62 #[va, vb] w fun e w' => e = .returned (.bool (decide (a = b))) ∧ Dr w w' := by
  have hal := ha.length_le
  have hbl := hb.length_le
  unfold maxLen at hal hbl
  obtain ⟨A, c, rfl, _, _, hA⟩ := ha
  obtain ⟨B, d, rfl, _, _, hB⟩ := hb
  by_cases hl : a.length = b.length
  · have h1 : a.length ≤ b.length := by omega
    have h2 : b.length ≤ a.length := by omega
    have H := Lib.hid hl
    clear hl
    go_enter Tryd.func62, Tryd.ntmps62
    go_wp2
    go_loopw [5] (fun i wr => ∃ k : Nat, k ≤ a.length ∧ i = .int .i64 (k : Int) ∧ Dr w wr ∧ Hid (∀ j, j < k → a.getD j 0 = b.getD j 0)) (fun i _ => a.length - (intOf i).toNat)
    case atStart => exact ⟨0, Nat.zero_le _, rfl, Dr.refl _, fun j hj => by omega⟩
    case round =>
      obtain ⟨k, hk, rfl, ⟨n, rfl⟩, hall⟩ := hrel
      rcases Nat.lt_or_ge k a.length with hlt | hge
      · obtain ⟨ba, oa, rfl, _, _, hca⟩ := hA (zbm (j := k) hlt)
        obtain ⟨bb, ob, rfl, _, _, hcb⟩ := hB (zbm (j := k) (Nat.le_trans hlt h1))
        obtain ⟨x, hx, hx0, hxc⟩ := zen (j := k) hca hlt
        obtain ⟨y, hy, hy0, hyc⟩ := zen (j := k) hcb (by omega)
        clear hca hcb
        by_cases hxy : x = y
        · have hb1 : (x != y) = false := by simp [hxy]
          have Hxy := Lib.hid hxy
          clear hxy
          go_wp2
          go_quiet (fail)
          go_wp2
          go_roundw
          case rel =>
            refine ⟨k + 1, by omega, by go_num, ⟨_, rfl⟩, fun j hj => ?_⟩
            rcases Nat.lt_or_ge j k with h | h
            · exact hall.out j h
            · obtain rfl : j = k := by omega
              have := hx.out
              have := hy.out
              have := Hxy.out
              omega
          case measure => simp [intOf]; omega
        · have hb1 : (x != y) = true := bne_iff_ne.2 hxy
          have Hr : Hid (decide (a = b) = false) := by
            simp only [Hid, decide_eq_false_iff_not]
            rintro rfl
            have := hx.out
            have := hy.out
            omega
          clear hxy
          go_wp2
          go_quiet (fail)
          go_wp2
          go_ret
          exact ⟨zfg Hr.out.symm, ((Dr.refl w).drewN n).drewN _⟩
      · obtain rfl : k = a.length := by omega
        have Hr : Hid (decide (a = b) = true) := by
          simp only [Hid, decide_eq_true_eq]
          exact eq_of_getD H.out hall.out
        go_wp2
        go_ret
        exact ⟨zfg Hr.out.symm, ⟨_, rfl⟩⟩
  · have hb1 : (((a.length : Int)) != (b.length : Int)) = true := by rw [bne_iff_ne]; omega
    have Hr : Hid (decide (a = b) = false) := by
      simp only [Hid, decide_eq_false_iff_not]
      rintro rfl
      exact hl rfl
    clear hl
    go_enter Tryd.func62, Tryd.ntmps62
    go_wp2
    go_ret
    exact ⟨zfg Hr.out.symm, Dr.refl _⟩
set_option maxHeartbeats 400000 in
theorem zfl {w : World} {va : Value} {x lo hi : Nat} (ha : IsN w lo hi va x) :
    Calls Tryd.prog 121 #[va] w fun e w' => e = .returned (.bool (decide (x = 1))) ∧ w = w' := by
  obtain ⟨A, c, rfl, hc, _, hA⟩ := ha
  generalize hl : lim x = l at *
  have Hl := Lib.hid hl; clear hl
  by_cases h1 : l.length = 1
  · obtain ⟨ba, oa, rfl, _, _, hca⟩ := hA (zbm (j := 0) (by omega))
    obtain ⟨y, hy, hy0, hyc⟩ := zen (j := 0) hca (by omega)
    clear hca
    obtain ⟨z, rfl⟩ : ∃ z, l = [z] := by
      match l, h1 with
      | [z], _ => exact ⟨z, rfl⟩
    simp only [List.getD_cons_zero] at hy
    rw [Nat.add_zero] at hyc
    by_cases h2 : y = 1
    · have Hx : Hid (decide (x = 1) = true) := by
        have := hy.out
        obtain rfl : z = 1 := by omega
        have hv := zbf x
        rw [Hl.out] at hv
        simp [val] at hv
        simp [Hid, hv]
      subst h2
      clear h1
      go_enter Tryd.func121, Tryd.ntmps121
      go_wp2
      go_ret
      exact ⟨zfg Hx.out.symm, rfl⟩
    · have Hx : Hid (decide (x = 1) = false) := by
        have := hy.out
        have hv := zbf x
        rw [Hl.out] at hv
        simp [val] at hv
        simp [Hid]
        omega
      have hb : (y == 1) = false := by simpa using h2
      clear h1
      go_enter Tryd.func121, Tryd.ntmps121
      go_wp2
      go_ret
      exact ⟨zfg Hx.out.symm, rfl⟩
  · have hb : ((l.length : Int) == 1) = false := by simp; omega
    have Hx : Hid (decide (x = 1) = false) := by
      simp only [Hid, decide_eq_false_iff_not]
      rintro rfl
      have h := Hl.out
      rw [zde] at h
      subst h
      simp at h1
    go_enter Tryd.func121, Tryd.ntmps121
    go_wp2
    go_ret
    exact ⟨zfg Hx.out.symm, rfl⟩
end Go.Proofs.YtjkgdggkgljdoaaDoor
namespace Go.Proofs.YtjkgdggkgljdoaaDoor
theorem gcd_odd {u : Nat} (hu : u % 2 = 1) (j v : Nat) : Nat.gcd u (2 ^ j * v) = Nat.gcd u v := by
  have h : Nat.Coprime u (2 ^ j) := by
    apply Nat.Coprime.pow_right
    unfold Nat.Coprime
    rw [Nat.gcd_comm, Nat.gcd_rec, hu]
    rfl
  exact Nat.Coprime.gcd_mul_left_cancel_right v h.symm
theorem or_split {a b k m : Nat} (h : a ||| b = 2 ^ k * (2 * m + 1)) : ∃ a1 b1, a = 2 ^ k * a1 ∧ b = 2 ^ k * b1 ∧ (a1 % 2 = 1 ∨ b1 % 2 = 1) := by
  have h1 : (a % 2 ^ k) ||| (b % 2 ^ k) = 0 := by rw [← Nat.or_mod_two_pow, h]; exact Nat.mul_mod_right _ _
  have ha : a % 2 ^ k = 0 := by
    have := Nat.left_le_or (n := a % 2 ^ k) (m := b % 2 ^ k)
    omega
  have hb : b % 2 ^ k = 0 := by
    have := Nat.right_le_or (n := a % 2 ^ k) (m := b % 2 ^ k)
    omega
  refine ⟨a / 2 ^ k, b / 2 ^ k, ?_, ?_, ?_⟩
  · rw [Nat.mul_comm, Nat.div_mul_cancel (Nat.dvd_of_mod_eq_zero ha)]
  · rw [Nat.mul_comm, Nat.div_mul_cancel (Nat.dvd_of_mod_eq_zero hb)]
  · have h2 : (a ||| b).testBit k = true := by
      rw [h, Nat.testBit_eq_decide_div_mod_eq, Nat.mul_div_cancel_left _ (Nat.pow_pos (by omega))]
      simp
    rw [Nat.testBit_or, Nat.testBit_eq_decide_div_mod_eq, Nat.testBit_eq_decide_div_mod_eq] at h2
    simpa using h2
theorem pow2_split {i k c d : Nat} (h : 2 ^ i * (2 * c + 1) = 2 ^ k * d) : (d % 2 = 1 → d = 2 * c + 1) ∧ ∃ j, d = 2 ^ j * (2 * c + 1) := by
  rcases Nat.lt_or_ge i k with hik | hik
  · exfalso
    obtain ⟨t, rfl⟩ : ∃ t, k = i + (t + 1) := ⟨k - i - 1, by omega⟩
    rw [Nat.pow_add, Nat.mul_assoc] at h
    have := Nat.eq_of_mul_eq_mul_left (Nat.pow_pos (by omega)) h
    rw [Nat.pow_succ] at this
    have e : 2 ^ t * 2 * d = 2 * (2 ^ t * d) := by rw [Nat.mul_comm (2 ^ t) 2, Nat.mul_assoc]
    omega
  · obtain ⟨t, rfl⟩ : ∃ t, i = k + t := ⟨i - k, by omega⟩
    rw [Nat.pow_add, Nat.mul_assoc] at h
    have hd := (Nat.eq_of_mul_eq_mul_left (Nat.pow_pos (by omega)) h).symm
    refine ⟨fun ho => ?_, t, hd⟩
    rcases t with _ | t
    · rw [hd]; simp
    · rw [hd, Nat.pow_succ, Nat.mul_comm (2 ^ t) 2, Nat.mul_assoc] at ho
      omega
theorem bin_start {a b k m i c : Nat} (h : a ||| b = 2 ^ k * (2 * m + 1)) (ha : a = 2 ^ i * (2 * c + 1)) : Nat.gcd a b = 2 ^ k * Nat.gcd (2 * c + 1) b := by
  obtain ⟨a1, b1, e1, e2, ho⟩ := or_split h
  have hodd : (2 * c + 1) % 2 = 1 := by omega
  have hs := pow2_split (ha.symm.trans e1)
  rw [e1, e2, Nat.gcd_mul_left, gcd_odd hodd]
  congr 1
  rcases ho with h1 | h1
  · rw [hs.1 h1]
  · obtain ⟨j, hj⟩ := hs.2
    rw [hj, Nat.gcd_comm, gcd_odd h1, Nat.gcd_comm]
theorem bin_step {A B j n G : Nat} (hA : A % 2 = 1) (hB : B = 2 ^ j * (2 * n + 1)) (hG : Nat.gcd A B = G) :
    (2 * n + 1 < A → Nat.gcd (2 * n + 1) (A - (2 * n + 1)) = G) ∧ (A ≤ 2 * n + 1 → Nat.gcd A (2 * n + 1 - A) = G) := by
  rw [hB, gcd_odd hA] at hG
  refine ⟨fun h => ?_, fun h => ?_⟩
  · rw [Nat.gcd_sub_self_right (by omega), Nat.gcd_comm]; exact hG
  · rw [Nat.gcd_sub_self_right h]; exact hG
theorem shift_odd {x k m : Nat} (h : x = 2 ^ k * (2 * m + 1)) : x / 2 ^ k = 2 * m + 1 := by rw [h, Nat.mul_div_cancel_left _ (Nat.pow_pos (by omega))]
theorem odd_le {x k m : Nat} (h : x = 2 ^ k * (2 * m + 1)) : 2 * m + 1 ≤ x := by
  rw [h]
  exact Nat.le_mul_of_pos_left _ (Nat.pow_pos (by omega))
end Go.Proofs.YtjkgdggkgljdoaaDoor
namespace Go.Proofs.YtjkgdggkgljdoaaDoor
open Go.RowKit
set_option linter.unusedVariables false
theorem shr_cast {x k m : Nat} (h : x = 2 ^ k * (2 * m + 1)) : (x : Int) / 2 ^ k = ((2 * m + 1 : Nat) : Int) := by
  have := shift_odd h
  rw [← this]
  simp
set_option maxHeartbeats 1000000 in
theorem binary_pos (a b : Nat) (w : World) (hB : Bru w) (ha : 1 ≤ a) (hb : 1 ≤ b) (ha9 : a < 18446744073709551616) (hb9 : b < 18446744073709551616) :
    Calls Tryd.prog 133 #[.int .u64 (a : Int), .int .u64 (b : Int)] w fun e w' => e = .returned (.int .u64 (Nat.gcd a b : Nat)) ∧ w = w' := by
  have h1 : ((a : Int) == 0) = false := beq_eq_false_iff_ne.2 (by omega)
  have h2 : ((b : Int) == 0) = false := beq_eq_false_iff_ne.2 (by omega)
  have HB := Lib.hid hB; clear hB
  have hor := Lib.hid (bits_or_u64_nat a b ha9 hb9)
  have hle : Hid (a ||| b < 18446744073709551616 ∧ a ||| b ≠ 0) := ⟨Nat.or_lt_two_pow (n := 64) (by omega) (by omega), by have := Nat.left_le_or (n := a) (m := b); omega⟩
  have hgl : Hid (Nat.gcd a b ≤ a) := Nat.le_of_dvd (by omega) (Nat.gcd_dvd_left a b)
  go_enter Tryd.func133, Tryd.ntmps133
  go_wp2_with fail
  rw [hor.out]
  obtain ⟨k, m, hk, hkm, hc⟩ := tz_n (a ||| b) w HB.out hle.out.2 hle.out.1
  have Hab := Lib.hid hkm; clear hkm
  refine hc.mono ?_
  clear hc
  rintro e w1 ⟨rfl, rfl⟩
  go_wp2_with fail
  obtain ⟨k2, m2, hk2, hkm2, hc2⟩ := tz_n a w HB.out (by omega) ha9
  have Hkm2 := Lib.hid hkm2
  have hsh := Lib.hid (shr_cast hkm2)
  have hol := odd_le hkm2
  clear hkm2
  refine hc2.mono ?_
  clear hc2
  rintro e w1 ⟨rfl, rfl⟩
  go_wp2_with fail
  rw [hsh.out]
  have hCo : (2 * m2 + 1) % 2 = 1 := by omega
  have HCo := Lib.hid hCo
  have hst := Lib.hid (bin_start Hab.out Hkm2.out)
  clear hCo Hkm2 Hab
  generalize hC : 2 * m2 + 1 = C at *
  have HC := Lib.hid hC
  have hC1 : 1 ≤ C := by omega
  clear hC
  go_loop [0, 1] (fun s0 s1 => ∃ (A B : Nat), s0 = .int .u64 (A : Int) ∧ s1 = .int .u64 (B : Int) ∧ 1 ≤ A ∧ A < 18446744073709551616 ∧ B < 18446744073709551616 ∧ Hid (A % 2 = 1 ∧ Nat.gcd A B = Nat.gcd C b)) (fun s0 s1 => (intOf s0).toNat + (intOf s1).toNat)
  case atStart => exact ⟨C, b, rfl, rfl, by omega, by omega, hb9, HCo.out, rfl⟩
  case round =>
    obtain ⟨A, B, rfl, rfl, hA1, hA9, hB9, hrel⟩ := hrel
    rcases Nat.eq_zero_or_pos B with h0 | h0
    · subst h0
      have hG : Hid (A = Nat.gcd C b) := by
        have := hrel.out.2
        rw [Nat.gcd_zero_right] at this
        exact this
      have hfin : Hid (IntKind.u64.wrap ((A : Int) * 2 ^ k) = ((Nat.gcd a b : Nat) : Int)) := by
        unfold Hid
        have e1 := hst.out
        rw [← hG.out, Nat.mul_comm] at e1
        have e2 : ((A : Int) * 2 ^ k) = ((A * 2 ^ k : Nat) : Int) := by simp
        rw [e2, ← e1, IntKind.wrap_u64]
        have := hgl.out
        omega
      go_wp2
      go_ret
      exact ⟨zbb hfin.out, rfl⟩
    · have hne : ((B : Int) != 0) = true := by rw [bne_iff_ne]; omega
      go_wp2_with fail
      obtain ⟨j, n, hj, hjn, hc3⟩ := tz_n B w HB.out (by omega) hB9
      have hsh2 := shr_cast hjn
      have hol2 := odd_le hjn
      have Hst := Lib.hid (bin_step hrel.out.1 hjn hrel.out.2)
      have Hsh2 := Lib.hid hsh2
      clear hsh2 hjn
      refine hc3.mono ?_
      clear hc3
      rintro e w1 ⟨rfl, rfl⟩
      have hsh3 := Hsh2.out
      generalize hD : 2 * n + 1 = D at *
      have HD := Lib.hid hD
      clear hD
      have hD1 : 1 ≤ D ∧ D % 2 = 1 := by have := HD.out; omega
      obtain ⟨hD1, hD2⟩ := hD1
      have HD2 := Lib.hid hD2
      clear hD2
      rcases Nat.lt_or_ge D A with hlt | hge
      · go_wp2
        go_round
        case rel => exact ⟨D, A - D, rfl, by go_num, by omega, by omega, by omega, HD2.out, Hst.out.1 hlt⟩
        case measure => simp [intOf]; omega
      · go_wp2
        go_round
        case rel => exact ⟨A, D - A, rfl, by go_num, hA1, hA9, by omega, hrel.out.1, Hst.out.2 hge⟩
        case measure => simp [intOf]; omega
theorem binary_n (a b : Nat) (w : World) (hB : Bru w) (ha9 : a < 18446744073709551616) (hb9 : b < 18446744073709551616) :
    Calls Tryd.prog 133 #[.int .u64 (a : Int), .int .u64 (b : Int)] w fun e w' => e = .returned (.int .u64 (Nat.gcd a b : Nat)) ∧ w = w' := by
  rcases Nat.eq_zero_or_pos a with h0 | h0
  · subst h0
    have H := Lib.hid (Nat.gcd_zero_left b)
    clear hB
    go_enter Tryd.func133, Tryd.ntmps133
    go_wp2
    go_ret
    exact ⟨zbb (by rw [H.out]), rfl⟩
  · rcases Nat.eq_zero_or_pos b with h1 | h1
    · subst h1
      have H := Lib.hid (Nat.gcd_zero_right a)
      have hne : ((a : Int) == 0) = false := beq_eq_false_iff_ne.2 (by omega)
      clear hB
      go_enter Tryd.func133, Tryd.ntmps133
      go_wp2
      go_ret
      exact ⟨zbb (by rw [H.out]), rfl⟩
    · exact binary_pos a b w hB h0 h1 ha9 hb9
set_option maxHeartbeats 400000 in
theorem word_n {w : World} {va : Value} {x lo hi : Nat} (ha : IsN w lo hi va x) (hx : (lim x).length ≤ 2) :
    Calls Tryd.prog 130 #[va] w fun e w' => e = .returned (.int .u64 (x : Int)) ∧ w = w' := by
  obtain ⟨A, c, rfl, _, _, hA⟩ := ha
  generalize hl : lim x = l at *
  have Hl : Hid (Lo l ∧ val l = x) := by rw [Hid, ← hl]; exact ⟨zbh x, zbf x⟩
  clear hl
  have hdl : Hid (∀ k, 1 ≤ k → val (l.drop k) ≤ 999999999) := by
    intro k hk
    have h := zea (lo_drop Hl.out.1 k)
    have h2 : pw (l.drop k).length ≤ pw 1 := pw_mono (by rw [List.length_drop]; omega)
    rw [pw_one] at h2
    omega
  go_enter Tryd.func130, Tryd.ntmps130
  go_wp2
  go_loop [3, 4] (fun n i => ∃ (k m : Nat), k ≤ l.length ∧ n = .int .u64 (m : Int) ∧ i = .int .i64 ((k : Int) - 1) ∧ Hid (m = val (l.drop k))) (fun _ i => ((intOf i) + 1).toNat)
  case atStart => exact ⟨l.length, 0, Nat.le_refl _, rfl, rfl, by rw [Hid, List.drop_length]; rfl⟩
  case round =>
    obtain ⟨k, m, hk, rfl, rfl, hm⟩ := hrel
    rcases k with _ | k
    · have hfin : Hid (m = x) := by have := hm.out; rw [List.drop_zero, Hl.out.2] at this; exact this
      go_wp2
      go_ret
      exact ⟨zbb (by rw [hfin.out]), rfl⟩
    · have hk1 : ((k + 1 : Nat) : Int) - 1 = (k : Int) := by omega
      rw [hk1]
      clear hk1
      obtain ⟨b, off, rfl, _, _, hca⟩ := hA (zbm (j := k) hk)
      obtain ⟨y, hy, hy0, hy1, hck⟩ := zbl (j := k) Hl.out.1 hca hk
      clear hca
      have hm9 : m ≤ 999999999 := by have := hm.out; have := hdl.out (k + 1) (by omega); omega
      go_wp2
      go_round
      case rel =>
        refine ⟨k, m * 1000000000 + y.toNat, by omega, by go_num, by go_num, ?_⟩
        have h1 := zfj (l := l) (k := k) hk
        have := hm.out
        have := hy.out
        unfold Hid
        omega
      case measure => simp [intOf]
end Go.Proofs.YtjkgdggkgljdoaaDoor
