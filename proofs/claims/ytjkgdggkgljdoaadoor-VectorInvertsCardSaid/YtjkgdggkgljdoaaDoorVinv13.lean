/-
  The zau of package vector's (*grid).clear.
-/
import Derived.Test.YtjkgdggkgljdoaaDoorVinv12
import Derived.RangeFuncFrom
import Derived.RangeFuncNested
import Derived.Test.YtjkgdggkgljdoaaDoorVinv07
import Derived.WideMake
namespace Go.Proofs.YtjkgdggkgljdoaaDoor
open Go.RowKit
set_option linter.unusedVariables false
def zds (A : Nat → Nat → Int) (i o c d j : Nat) : Nat → Nat → Int := fun a b => if a = o ∧ b < j then crossZ (A o b) (A i c) (A o c) (A i b) d else A a b
theorem clearTo_zero (A : Nat → Nat → Int) (i o c d : Nat) : zds A i o c d 0 = A := by funext a b; unfold zds; rw [if_neg (by omega)]
theorem clearTo_at (A : Nat → Nat → Int) (i o c d j : Nat) : zds A i o c d j o j = A o j := by unfold zds; rw [if_neg (by omega)]
theorem clearTo_row (A : Nat → Nat → Int) {i o c d j b : Nat} (h : i ≠ o) : zds A i o c d j i b = A i b := by unfold zds; rw [if_neg (by omega)]
theorem clearTo_succ (A : Nat → Nat → Int) (i o c d j : Nat) (a b : Nat) : updM (zds A i o c d j) o j (crossZ (A o j) (A i c) (A o c) (A i j) d) a b = zds A i o c d (j + 1) a b := by
  unfold updM zds
  by_cases h : a = o ∧ b = j
  · obtain ⟨rfl, rfl⟩ := h
    rw [if_pos ⟨rfl, rfl⟩, if_pos ⟨rfl, by omega⟩]
  · rw [if_neg h]
    by_cases h2 : a = o ∧ b < j
    · rw [if_pos h2, if_pos ⟨h2.1, by omega⟩]
    · rw [if_neg h2, if_neg (by omega)]
set_option maxRecDepth 100000 in
set_option maxHeartbeats 4000000 in
theorem clear_s {w : World} {S : Nat → Prop} {g r0 c0 d : Nat} {rb cp : Nat → Nat} {n m : Nat} {A : Nat → Nat → Int} {y : Value} {D : Option Addr} {cd : Nat} {i o c : Nat} (hM : MatW w S r0 rb cp n m A) (hg : Row w g 110 [.slice (some ⟨r0, 0, none⟩) n c0, y, .slice D (lim d).length cd])
    (hD : NumS w S (.slice D (lim d).length cd) d) (hgo : g ≠ rb o) (hn : n ≤ 100) (hm : m ≤ 100) (hi : i < n) (ho : o < n) (hio : i ≠ o) (hc : c < m) (hs : ∀ a b, a < n → b < m → Sz ((A a b : Int) : Rat) 500000) (hdl : (lim d).length ≤ 1000000) (hd0 : 0 < d) :
    Calls Tryd.prog 105 #[.pointer (some ⟨g, 0, none⟩), .int .i64 (i : Int), .int .i64 (o : Int), .int .i64 (c : Int)] w fun e w' => e = .returned (.tuple #[]) ∧ MatW w' (SN S w.heap.size w') r0 rb cp n m (zds A i o c d m) ∧ w.grownBy w' (some (rb o)) := by
  have HM := Lib.hid hM
  have HG := Lib.hid hg
  have HD := Lib.hid hD
  have Hs := Lib.hid hs
  have Hgo := Lib.hid hgo
  have Hdl := Lib.hid hdl
  have Hd0 := Lib.hid hd0
  have Hio := Lib.hid hio
  have Hr0 := Lib.hid (hM.sep o ho).1
  have Hri := Lib.hid (hM.sep i hi).1
  have HRI : Hid (rb i ≠ rb o) := fun e => hio (hM.inj i o hi ho e)
  have g0 := hg.cell 0
  have g2 := hg.cell 2
  simp at g0 g2
  have hi0 : (0 : Int) ≤ (i : Int) := by omega
  have hi1 : (i : Int) < (n : Int) := by omega
  have ho0 : (0 : Int) ≤ (o : Int) := by omega
  have ho1 : (o : Int) < (n : Int) := by omega
  have hc0 : (0 : Int) ≤ (c : Int) := by omega
  have hc1 : (c : Int) < (m : Int) := by omega
  have ci := hM.hd i hi
  have co := hM.hd o ho
  have cr := zbr
  have hcapi := (hM.cap i hi)
  have hcapo := (hM.cap o ho)
  obtain ⟨P, k, Q, l, e0, e1, e2, eq⟩ := hM.el i c hi hc
  obtain ⟨P', k', Q', l', e0', e1', e2', eq'⟩ := hM.el o c ho hc
  have QP := Lib.hid eq
  have QF := Lib.hid eq'
  obtain ⟨V, hV⟩ : ∃ x, x = rb o := ⟨_, rfl⟩
  obtain ⟨C, hC⟩ : ∃ x, x = cp o := ⟨_, rfl⟩
  obtain ⟨U, hU⟩ : ∃ x, x = rb i := ⟨_, rfl⟩
  obtain ⟨B, hB⟩ : ∃ x, x = cp i := ⟨_, rfl⟩
  obtain ⟨x0, hx0⟩ : ∃ x, x = decide (A i c < 0) := ⟨_, rfl⟩
  obtain ⟨x1, hx1⟩ : ∃ x, x = (lim (A i c).natAbs).length := ⟨_, rfl⟩
  obtain ⟨z0, hz0⟩ : ∃ x, x = decide (A o c < 0) := ⟨_, rfl⟩
  obtain ⟨z1, hz1⟩ : ∃ x, x = (lim (A o c).natAbs).length := ⟨_, rfl⟩
  obtain ⟨x2, hx2⟩ : ∃ x, x = (lim 1).length := ⟨_, rfl⟩
  obtain ⟨ld, hld⟩ : ∃ x, x = (lim d).length := ⟨_, rfl⟩
  rw [← hV] at co e0' e1' e2' Hgo Hr0 HRI ⊢
  rw [← hU] at ci e0 e1 e2 Hri HRI
  rw [← hC] at co hcapo
  rw [← hB] at ci hcapi
  rw [← hx0] at e0 QP
  rw [← hx1] at e1 QP
  rw [← hx2] at e2 QP e2' QF
  rw [← hz0] at e0' QF
  rw [← hz1] at e1' QF
  rw [← hld] at g2 HD HG
  have HV := Lib.hid hV
  have HC := Lib.hid hC
  have HU := Lib.hid hU
  have HB := Lib.hid hB
  have hVs : V < w.heap.size := by rw [hV]; exact (hM.sep o ho).2.2
  have hUs : U < w.heap.size := by rw [hU]; exact (hM.sep i hi).2.2
  have HVs := Lib.hid hVs
  have Hx2 := Lib.hid hx2
  have hcap1 := hcapo.1
  have hcap2 : C ≤ 9223372036854775807 := by have := hcapo.2; unfold maxLen at this; omega
  have hcap3 := hcapi.1
  have hcap4 : B ≤ 9223372036854775807 := by have := hcapi.2; unfold maxLen at this; omega
  clear hM hg eq eq' hs hgo hV hC hU hB hx0 hx1 hx2 hz0 hz1 hVs hUs hld hcapi hcapo hD hdl hd0 hio
  go_enter Tryd.func105, Tryd.ntmps105
  go_wp2_with fail
  have HS : Hid (∀ W : World, Below w.heap.size w W → W.cell? ⟨g, 0, none⟩ = some (.slice (some ⟨r0, 0, none⟩) n c0) ∧ W.cell? ⟨r0, i, none⟩ = some (.slice (some ⟨U, 0, none⟩) m B) ∧ W.cell? ⟨r0, o, none⟩ = some (.slice (some ⟨V, 0, none⟩) m C) ∧ W.cell? ⟨U, c * 3, none⟩ = some (.bool x0) ∧ W.cell? ⟨U, c * 3 + 1, none⟩ = some (.slice P x1 k) ∧ W.cell? ⟨U, c * 3 + 2, none⟩ = some (.slice Q x2 l) ∧ W.cell? ⟨V, c * 3, none⟩ = some (.bool z0) ∧ W.cell? ⟨V, c * 3 + 1, none⟩ = some (.slice P' z1 k') ∧ W.cell? ⟨V, c * 3 + 2, none⟩ = some (.slice Q' x2 l')) := fun W hW => ⟨zac hW g0, zac hW ci, zac hW co, zac hW e0, zac hW e1, zac hW e2, zac hW e0', zac hW e1', zac hW e2'⟩
  go_region_held3 (fun w' => w'.cell? ⟨g, 0, none⟩ = some (.slice (some ⟨r0, 0, none⟩) n c0) ∧ w'.cell? ⟨r0, i, none⟩ = some (.slice (some ⟨U, 0, none⟩) m B) ∧ w'.cell? ⟨r0, o, none⟩ = some (.slice (some ⟨V, 0, none⟩) m C) ∧ w'.cell? ⟨U, c * 3, none⟩ = some (.bool x0) ∧ w'.cell? ⟨U, c * 3 + 1, none⟩ = some (.slice P x1 k) ∧ w'.cell? ⟨U, c * 3 + 2, none⟩ = some (.slice Q x2 l) ∧ w'.cell? ⟨V, c * 3, none⟩ = some (.bool z0) ∧ w'.cell? ⟨V, c * 3 + 1, none⟩ = some (.slice P' z1 k') ∧ w'.cell? ⟨V, c * 3 + 2, none⟩ = some (.slice Q' x2 l'))
    (exact HS.out _ (by (repeat (first | exact Below.refl _ _ | assumption | refine zae ?_ _ | refine zaf ?_ | refine zag ?_ ?_ _ _ _ | refine zai ?_ (by omega) | refine zaa ?_ (by assumption))); (first | done | fail)))
    (fail)
  · obtain ⟨w0, hw0, hb0, rP, rF, Hz⟩ := zfp w #[.bool x0, .slice P x1 k, .slice Q x2 l] #[.bool z0, .slice P' z1 k', .slice Q' x2 l'] 50 50
    rw [hw0]
    obtain ⟨w1, hw1⟩ : ∃ x, x = w0.drew := ⟨_, rfl⟩
    have B1 : Hid (Below w.heap.size w w1) := by rw [Hid, hw1]; exact ⟨hb0.os, hb0.tape, hb0.output, hb0.size, hb0.block⟩
    have RP : Hid (Row w1 w.heap.size 50 [.bool x0, .slice P x1 k, .slice Q x2 l]) := by rw [Hid, hw1]; exact rP.drew
    have RF : Hid (Row w1 (w.heap.size + 1) 50 [.bool z0, .slice P' z1 k', .slice Q' x2 l']) := by rw [Hid, hw1]; exact rF.drew
    have Hs1 : Hid (w1.heap.size = w.heap.size + 2) := by rw [Hid, hw1]; exact Hz.out
    rw [← hw1]
    clear hw1 hb0 rP rF Hz HS hw0
    replace g0 := zac B1.out g0
    replace co := zac B1.out co
    clear ci e0 e1 e2 e0' e1' e2' g2
    go_wp2_with fail
    clear g0 co
    go_loopw [40, 10, 11] (fun ii _ _ wr => ∃ j : Nat, j ≤ m ∧ ii = .int .i64 (j : Int) ∧ w1.grownBy wr (some V) ∧ Hid (MatW wr (SN S w.heap.size wr) r0 rb cp n m (zds A i o c d j))) (fun ii _ _ _ => m - (intOf ii).toNat)
    case atStart => exact ⟨0, Nat.zero_le _, rfl, zak _ _, by rw [Hid, clearTo_zero]; exact HM.out.start.grow (Nat.le_refl _) B1.out⟩
    case round =>
      obtain ⟨j, hj, rfl, hgr, hmj⟩ := hrel
      have GR := Lib.hid hgr
      have MJ := Lib.hid hmj.out
      have GW := Lib.hid (zap (zbe B1.out) hgr)
      have RG := Lib.hid (HG.out.grownN GW.out fun b e => by cases e; exact Hgo.out)
      have hV1 : Hid (V < w.heap.size) := HVs.out
      have RPr := Lib.hid (RP.out.grownN hgr fun b e => by cases e; have := hV1.out; omega)
      have RFr := Lib.hid (RF.out.grownN hgr fun b e => by cases e; have := hV1.out; omega)
      have g0 := RG.out.cell 0
      have g2 := RG.out.cell 2
      simp at g0 g2
      have ci := MJ.out.hd i hi
      have co := MJ.out.hd o ho
      rw [← HU.out, ← HB.out] at ci
      rw [← HV.out, ← HC.out] at co
      clear hgr hmj
      rcases Nat.lt_or_ge j m with hlt | hge
      · obtain ⟨P1, k1, Q1, l1, e0, e1, e2, eq⟩ := MJ.out.el o j ho hlt
        obtain ⟨P3, k3, Q3, l3, i0, i1, i2, iq⟩ := MJ.out.el i j hi hlt
        rw [clearTo_at] at e0 e1 eq
        rw [clearTo_row _ Hio.out] at i0 i1 iq
        rw [← HV.out] at e0 e1 e2
        rw [← HU.out] at i0 i1 i2
        have QC := Lib.hid (IsQ.stb.to eq (zay (T := Old wr) MJ.out.sS))
        have QI := Lib.hid (IsQ.stb.to iq (zay (T := Old wr) MJ.out.sS))
        obtain ⟨y0, hy0⟩ : ∃ x, x = decide (A o j < 0) := ⟨_, rfl⟩
        obtain ⟨y1, hy1⟩ : ∃ x, x = (lim (A o j).natAbs).length := ⟨_, rfl⟩
        obtain ⟨q0, hq0⟩ : ∃ x, x = decide (A i j < 0) := ⟨_, rfl⟩
        obtain ⟨q1, hq1⟩ : ∃ x, x = (lim (A i j).natAbs).length := ⟨_, rfl⟩
        rw [← hy0] at e0 QC
        rw [← hy1] at e1 QC
        rw [← hq0] at i0 QI
        rw [← hq1] at i1 QI
        rw [← Hx2.out] at e2 QC i2 QI
        have hj0 : (0 : Int) ≤ (j : Int) := by omega
        have hj1 : (j : Int) < (m : Int) := by omega
        have hVr : V < wr.heap.size := Nat.lt_of_lt_of_le HVs.out GW.out.size
        have f0 : wr.frozen? ⟨V, j * 3, none⟩ = false := by rw [HV.out]; exact MJ.out.ef o _ ho (by omega)
        have f1 : wr.frozen? ⟨V, j * 3 + 1, none⟩ = false := by rw [HV.out]; exact MJ.out.ef o _ ho (by omega)
        have f2 : wr.frozen? ⟨V, j * 3 + 2, none⟩ = false := by rw [HV.out]; exact MJ.out.ef o _ ho (by omega)
        obtain ⟨wx, hwx, hbx, rx, hzx⟩ := zcf wr #[.bool y0, .slice P1 y1 k1, .slice Q1 x2 l1] 50
        obtain ⟨b0, b1, b2⟩ := zad rx
        obtain ⟨p0, p1, p2⟩ := zad RPr.out
        obtain ⟨a0, a1, a2⟩ := zad RFr.out
        have CC := Lib.hid (And.intro (zac hbx g0) (And.intro (zac hbx g2) (And.intro (zac hbx ci) (And.intro (zac hbx co) (And.intro b0 (And.intro b1 (And.intro b2 (And.intro (zac hbx p0) (And.intro (zac hbx p1) (And.intro (zac hbx p2) (And.intro (zac hbx a0) (And.intro (zac hbx a1) (And.intro (zac hbx a2) (And.intro (zac hbx i0) (And.intro (zac hbx i1) (zac hbx i2))))))))))))))))
        have EE := Lib.hid (And.intro (zac hbx e0) (And.intro (zac hbx e1) (zac hbx e2)))
        have FF := Lib.hid (And.intro (zbu hbx e0 f0) (And.intro (zbu hbx e1 f1) (zbu hbx e2 f2)))
        have QX := Lib.hid (IsQ.stb.next QC.out hbx)
        have QY := Lib.hid (IsQ.stb.next QI.out hbx)
        have BX := Lib.hid hbx
        have BW : Hid (∀ b, b < w.heap.size → b ≠ V → wx.heap[b]? = w.heap[b]?) := fun b hb hne => (BX.out.block b (Nat.lt_of_lt_of_le hb GW.out.size)).trans (GW.out.block b hb (fun e => hne (by cases e; rfl)))
        have hlt' := hlt
        have Hlt := Lib.hid hlt
        obtain ⟨z, hz⟩ : ∃ x, x = crossZ (A o j) (A i c) (A o c) (A i j) d := ⟨_, rfl⟩
        have HZ := Lib.hid hz
        have hne1 : Hid (wr.heap.size ≠ V) := by rw [Hid]; omega
        have hne2 : Hid (w.heap.size ≠ V) := by rw [Hid]; have := HVs.out; omega
        have hne3 : Hid ((w.heap.size + 1) ≠ V) := by rw [Hid]; have := HVs.out; omega
        have HSm : Same S (Old wx) w wx := fun b hb => ⟨Nat.lt_of_lt_of_le (HM.out.sS b hb) (Nat.le_trans GW.out.size BX.out.size), fun o' => World.cell?_of_block (BW.out b (HM.out.sS b hb) fun e => (HM.out.sep o ho).2.1 (by rw [← HV.out, ← e]; exact hb))⟩
        have QPx : Hid (IsQ wx (Old wx) (.agg #[.bool x0, .slice P x1 k, .slice Q x2 l]) ((A i c : Int) : Rat)) := IsQ.stb.to QP.out HSm
        have QFx : Hid (IsQ wx (Old wx) (.agg #[.bool z0, .slice P' z1 k', .slice Q' x2 l']) ((A o c : Int) : Rat)) := IsQ.stb.to QF.out HSm
        have HDx : Hid (NumS wx (Old wx) (.slice D ld cd) d) := IsK.stb.to HD.out HSm
        clear HSm eq iq hy0 hy1 hq0 hq1 rx hzx hbx b0 b1 b2 f0 f1 f2 hVr hz hlt hlt' p0 p1 p2 a0 a1 a2
        go_wp2_with fail
        clear hwx g0 g2 ci co e0 e1 e2 i0 i1 i2
        have HS : Hid (∀ W : World, Below wx.heap.size wx W → W.cell? ⟨g, 0, none⟩ = some (.slice (some ⟨r0, 0, none⟩) n c0) ∧ W.cell? ⟨g, 2, none⟩ = some (.slice D ld cd) ∧ W.cell? ⟨r0, i, none⟩ = some (.slice (some ⟨U, 0, none⟩) m B) ∧ W.cell? ⟨r0, o, none⟩ = some (.slice (some ⟨V, 0, none⟩) m C) ∧ W.cell? ⟨wr.heap.size, 0, none⟩ = some (.bool y0) ∧ W.cell? ⟨wr.heap.size, 1, none⟩ = some (.slice P1 y1 k1) ∧ W.cell? ⟨wr.heap.size, 2, none⟩ = some (.slice Q1 x2 l1) ∧ W.cell? ⟨w.heap.size, 0, none⟩ = some (.bool x0) ∧ W.cell? ⟨w.heap.size, 1, none⟩ = some (.slice P x1 k) ∧ W.cell? ⟨w.heap.size, 2, none⟩ = some (.slice Q x2 l) ∧ W.cell? ⟨(w.heap.size + 1), 0, none⟩ = some (.bool z0) ∧ W.cell? ⟨(w.heap.size + 1), 1, none⟩ = some (.slice P' z1 k') ∧ W.cell? ⟨(w.heap.size + 1), 2, none⟩ = some (.slice Q' x2 l') ∧ W.cell? ⟨U, j * 3, none⟩ = some (.bool q0) ∧ W.cell? ⟨U, j * 3 + 1, none⟩ = some (.slice P3 q1 k3) ∧ W.cell? ⟨U, j * 3 + 2, none⟩ = some (.slice Q3 x2 l3)) := fun W hW => ⟨zac hW CC.out.1, zac hW CC.out.2.1, zac hW CC.out.2.2.1, zac hW CC.out.2.2.2.1, zac hW CC.out.2.2.2.2.1, zac hW CC.out.2.2.2.2.2.1, zac hW CC.out.2.2.2.2.2.2.1, zac hW CC.out.2.2.2.2.2.2.2.1, zac hW CC.out.2.2.2.2.2.2.2.2.1, zac hW CC.out.2.2.2.2.2.2.2.2.2.1, zac hW CC.out.2.2.2.2.2.2.2.2.2.2.1, zac hW CC.out.2.2.2.2.2.2.2.2.2.2.2.1, zac hW CC.out.2.2.2.2.2.2.2.2.2.2.2.2.1, zac hW CC.out.2.2.2.2.2.2.2.2.2.2.2.2.2.1, zac hW CC.out.2.2.2.2.2.2.2.2.2.2.2.2.2.2.1, zac hW CC.out.2.2.2.2.2.2.2.2.2.2.2.2.2.2.2⟩
        have D1 : Hid (∀ W : World, Below wx.heap.size wx W → Calls Tryd.prog 128 #[.agg #[.bool y0, .slice P1 y1 k1, .slice Q1 x2 l1], .agg #[.bool x0, .slice P x1 k, .slice Q x2 l], .agg #[.bool z0, .slice P' z1 k', .slice Q' x2 l'], .agg #[.bool q0, .slice P3 q1 k3, .slice Q3 x2 l3], .slice D ld cd] W (RetQ W (((z : Int)) : Rat))) := fun W hW => by have h := cross_q (IsQ.stb.next QX.out hW) (IsQ.stb.next QPx.out hW) (IsQ.stb.next QFx.out hW) (IsQ.stb.next QY.out hW) (zal (IsK.stb.next HDx.out hW)) (Hs.out o j ho Hlt.out) (Hs.out i c hi hc) (Hs.out o c ho hc) (Hs.out i j hi Hlt.out) Hdl.out Hd0.out; rw [Rat.num_intCast, Rat.num_intCast, Rat.num_intCast, Rat.num_intCast, ← HZ.out] at h; exact h
        have HP : Hid (∀ W : World, Below wx.heap.size wx W → ∀ x y z, (putE W V j x y z).cell? ⟨g, 0, none⟩ = some (.slice (some ⟨r0, 0, none⟩) n c0) ∧ (putE W V j x y z).cell? ⟨g, 2, none⟩ = some (.slice D ld cd) ∧ (putE W V j x y z).cell? ⟨r0, i, none⟩ = some (.slice (some ⟨U, 0, none⟩) m B) ∧ (putE W V j x y z).cell? ⟨r0, o, none⟩ = some (.slice (some ⟨V, 0, none⟩) m C) ∧ (putE W V j x y z).cell? ⟨wr.heap.size, 0, none⟩ = some (.bool y0) ∧ (putE W V j x y z).cell? ⟨wr.heap.size, 1, none⟩ = some (.slice P1 y1 k1) ∧ (putE W V j x y z).cell? ⟨wr.heap.size, 2, none⟩ = some (.slice Q1 x2 l1) ∧ (putE W V j x y z).cell? ⟨w.heap.size, 0, none⟩ = some (.bool x0) ∧ (putE W V j x y z).cell? ⟨w.heap.size, 1, none⟩ = some (.slice P x1 k) ∧ (putE W V j x y z).cell? ⟨w.heap.size, 2, none⟩ = some (.slice Q x2 l) ∧ (putE W V j x y z).cell? ⟨(w.heap.size + 1), 0, none⟩ = some (.bool z0) ∧ (putE W V j x y z).cell? ⟨(w.heap.size + 1), 1, none⟩ = some (.slice P' z1 k') ∧ (putE W V j x y z).cell? ⟨(w.heap.size + 1), 2, none⟩ = some (.slice Q' x2 l') ∧ (putE W V j x y z).cell? ⟨U, j * 3, none⟩ = some (.bool q0) ∧ (putE W V j x y z).cell? ⟨U, j * 3 + 1, none⟩ = some (.slice P3 q1 k3) ∧ (putE W V j x y z).cell? ⟨U, j * 3 + 2, none⟩ = some (.slice Q3 x2 l3)) := fun W hW x y z => (fun h => ⟨zat h.1 Hgo.out, zat h.2.1 Hgo.out, zat h.2.2.1 (Ne.symm Hr0.out), zat h.2.2.2.1 (Ne.symm Hr0.out), zat h.2.2.2.2.1 hne1.out, zat h.2.2.2.2.2.1 hne1.out, zat h.2.2.2.2.2.2.1 hne1.out, zat h.2.2.2.2.2.2.2.1 hne2.out, zat h.2.2.2.2.2.2.2.2.1 hne2.out, zat h.2.2.2.2.2.2.2.2.2.1 hne2.out, zat h.2.2.2.2.2.2.2.2.2.2.1 hne3.out, zat h.2.2.2.2.2.2.2.2.2.2.2.1 hne3.out, zat h.2.2.2.2.2.2.2.2.2.2.2.2.1 hne3.out, zat h.2.2.2.2.2.2.2.2.2.2.2.2.2.1 HRI.out, zat h.2.2.2.2.2.2.2.2.2.2.2.2.2.2.1 HRI.out, zat h.2.2.2.2.2.2.2.2.2.2.2.2.2.2.2 HRI.out⟩) (HS.out W hW)
        go_region_held3 (fun w' => w'.cell? ⟨g, 0, none⟩ = some (.slice (some ⟨r0, 0, none⟩) n c0) ∧ w'.cell? ⟨g, 2, none⟩ = some (.slice D ld cd) ∧ w'.cell? ⟨r0, i, none⟩ = some (.slice (some ⟨U, 0, none⟩) m B) ∧ w'.cell? ⟨r0, o, none⟩ = some (.slice (some ⟨V, 0, none⟩) m C) ∧ w'.cell? ⟨wr.heap.size, 0, none⟩ = some (.bool y0) ∧ w'.cell? ⟨wr.heap.size, 1, none⟩ = some (.slice P1 y1 k1) ∧ w'.cell? ⟨wr.heap.size, 2, none⟩ = some (.slice Q1 x2 l1) ∧ w'.cell? ⟨w.heap.size, 0, none⟩ = some (.bool x0) ∧ w'.cell? ⟨w.heap.size, 1, none⟩ = some (.slice P x1 k) ∧ w'.cell? ⟨w.heap.size, 2, none⟩ = some (.slice Q x2 l) ∧ w'.cell? ⟨(w.heap.size + 1), 0, none⟩ = some (.bool z0) ∧ w'.cell? ⟨(w.heap.size + 1), 1, none⟩ = some (.slice P' z1 k') ∧ w'.cell? ⟨(w.heap.size + 1), 2, none⟩ = some (.slice Q' x2 l') ∧ w'.cell? ⟨U, j * 3, none⟩ = some (.bool q0) ∧ w'.cell? ⟨U, j * 3 + 1, none⟩ = some (.slice P3 q1 k3) ∧ w'.cell? ⟨U, j * 3 + 2, none⟩ = some (.slice Q3 x2 l3))
          (first | exact HS.out _ (by (repeat (first | exact Below.refl _ _ | assumption | refine zae ?_ _ | refine zaf ?_ | refine zag ?_ ?_ _ _ _ | refine zai ?_ (by omega) | refine zaa ?_ (by assumption))); (first | done | fail)) | exact HP.out _ (by (repeat (first | exact Below.refl _ _ | assumption | refine zae ?_ _ | refine zaf ?_ | refine zag ?_ ?_ _ _ _ | refine zai ?_ (by omega) | refine zaa ?_ (by assumption))); (first | done | fail)) _ _ _)
          (first
            | (go_at_call 128; (with_reducible refine Calls.mono (D1.out _ (by (repeat (first | exact Below.refl _ _ | assumption | refine zae ?_ _ | refine zaf ?_ | refine zag ?_ ?_ _ _ _ | refine zai ?_ (by omega) | refine zaa ?_ (by assumption))); (first | done | fail))) ?_); rintro e w2 ⟨⟨v2, rfl, hv2⟩, hb2⟩; have B2 : Hid (Below wx.heap.size wx w2) := (by (repeat (first | exact Below.refl _ _ | assumption | refine zae ?_ _ | refine zaf ?_ | refine zag ?_ ?_ _ _ _ | refine zai ?_ (by omega) | refine zaa ?_ (by assumption))); (first | done | fail)); obtain ⟨P2, k2, O2, l2, rfl⟩ := isQ_int hv2; have u0 := zac B2.out EE.out.1; have u1 := zac B2.out EE.out.2.1; have u2 := zac B2.out EE.out.2.2; have v0 := zbu B2.out EE.out.1 FF.out.1; have v1 := zbu B2.out EE.out.2.1 FF.out.2.1; have v2 := zbu B2.out EE.out.2.2 FF.out.2.2))
        have MX := Lib.hid ((MJ.out.grow GW.out.size BX.out).grow (Nat.le_trans GW.out.size BX.out.size) B2.out)
        have hq2 : IsQ w2 (SN S w.heap.size w2) (.agg #[.bool (decide (z < 0)), .slice P2 (lim z.natAbs).length k2, .slice O2 (lim 1).length l2]) ((z : Int) : Rat) := IsQ.stb.to hv2 (zay fun b hb => .inr ⟨by have h1 := GW.out.size; have h2 := BX.out.size; have h3 := hb.1; simp at h3; omega, hb.2⟩)
        have HQ2 := Lib.hid hq2
        have hlt := Hlt.out
        have G2 := Lib.hid (zap (zap GR.out (zbe BX.out)) (zbe B2.out))
        clear HS HP D1 hv2 hb2 u0 u1 u2 v0 v1 v2 hq2
        go_wp2_with fail
        go_roundw
        case rel =>
          have hM2 := MX.out.put ho hlt HQ2.out
          rw [← HV.out] at hM2
          refine ⟨j + 1, hlt, by go_num, zes G2.out, ?_⟩
          have e : SN S w.heap.size (putE w2 V j (.bool (decide (z < 0))) (.slice P2 (lim z.natAbs).length k2) (.slice O2 (lim 1).length l2)) = SN S w.heap.size w2 := by unfold SN; rw [zev]
          show MatW _ (SN S w.heap.size (putE w2 V j _ _ _)) _ _ _ _ _ _
          rw [e]
          exact hM2.same fun a b _ _ => by rw [HZ.out]; exact clearTo_succ A i o c d j a b
        case measure => simp [intOf]; omega
      · obtain rfl : j = m := by omega
        go_wp2_with fail
        refine bodyPost_end (results_none rfl _ _ _) rfl ?_
        exact ⟨rfl, MJ.out, GW.out⟩
  · obtain ⟨w0, hw0, hb0, rF, rP, Hz⟩ := zfp w #[.bool z0, .slice P' z1 k', .slice Q' x2 l'] #[.bool x0, .slice P x1 k, .slice Q x2 l] 50 50
    rw [hw0]
    obtain ⟨w1, hw1⟩ : ∃ x, x = w0.drew := ⟨_, rfl⟩
    have B1 : Hid (Below w.heap.size w w1) := by rw [Hid, hw1]; exact ⟨hb0.os, hb0.tape, hb0.output, hb0.size, hb0.block⟩
    have RP : Hid (Row w1 (w.heap.size + 1) 50 [.bool x0, .slice P x1 k, .slice Q x2 l]) := by rw [Hid, hw1]; exact rP.drew
    have RF : Hid (Row w1 w.heap.size 50 [.bool z0, .slice P' z1 k', .slice Q' x2 l']) := by rw [Hid, hw1]; exact rF.drew
    have Hs1 : Hid (w1.heap.size = w.heap.size + 2) := by rw [Hid, hw1]; exact Hz.out
    rw [← hw1]
    clear hw1 hb0 rP rF Hz HS hw0
    replace g0 := zac B1.out g0
    replace co := zac B1.out co
    clear ci e0 e1 e2 e0' e1' e2' g2
    go_wp2_with fail
    clear g0 co
    go_loopw [40, 10, 11] (fun ii _ _ wr => ∃ j : Nat, j ≤ m ∧ ii = .int .i64 (j : Int) ∧ w1.grownBy wr (some V) ∧ Hid (MatW wr (SN S w.heap.size wr) r0 rb cp n m (zds A i o c d j))) (fun ii _ _ _ => m - (intOf ii).toNat)
    case atStart => exact ⟨0, Nat.zero_le _, rfl, zak _ _, by rw [Hid, clearTo_zero]; exact HM.out.start.grow (Nat.le_refl _) B1.out⟩
    case round =>
      obtain ⟨j, hj, rfl, hgr, hmj⟩ := hrel
      have GR := Lib.hid hgr
      have MJ := Lib.hid hmj.out
      have GW := Lib.hid (zap (zbe B1.out) hgr)
      have RG := Lib.hid (HG.out.grownN GW.out fun b e => by cases e; exact Hgo.out)
      have hV1 : Hid (V < w.heap.size) := HVs.out
      have RPr := Lib.hid (RP.out.grownN hgr fun b e => by cases e; have := hV1.out; omega)
      have RFr := Lib.hid (RF.out.grownN hgr fun b e => by cases e; have := hV1.out; omega)
      have g0 := RG.out.cell 0
      have g2 := RG.out.cell 2
      simp at g0 g2
      have ci := MJ.out.hd i hi
      have co := MJ.out.hd o ho
      rw [← HU.out, ← HB.out] at ci
      rw [← HV.out, ← HC.out] at co
      clear hgr hmj
      rcases Nat.lt_or_ge j m with hlt | hge
      · obtain ⟨P1, k1, Q1, l1, e0, e1, e2, eq⟩ := MJ.out.el o j ho hlt
        obtain ⟨P3, k3, Q3, l3, i0, i1, i2, iq⟩ := MJ.out.el i j hi hlt
        rw [clearTo_at] at e0 e1 eq
        rw [clearTo_row _ Hio.out] at i0 i1 iq
        rw [← HV.out] at e0 e1 e2
        rw [← HU.out] at i0 i1 i2
        have QC := Lib.hid (IsQ.stb.to eq (zay (T := Old wr) MJ.out.sS))
        have QI := Lib.hid (IsQ.stb.to iq (zay (T := Old wr) MJ.out.sS))
        obtain ⟨y0, hy0⟩ : ∃ x, x = decide (A o j < 0) := ⟨_, rfl⟩
        obtain ⟨y1, hy1⟩ : ∃ x, x = (lim (A o j).natAbs).length := ⟨_, rfl⟩
        obtain ⟨q0, hq0⟩ : ∃ x, x = decide (A i j < 0) := ⟨_, rfl⟩
        obtain ⟨q1, hq1⟩ : ∃ x, x = (lim (A i j).natAbs).length := ⟨_, rfl⟩
        rw [← hy0] at e0 QC
        rw [← hy1] at e1 QC
        rw [← hq0] at i0 QI
        rw [← hq1] at i1 QI
        rw [← Hx2.out] at e2 QC i2 QI
        have hj0 : (0 : Int) ≤ (j : Int) := by omega
        have hj1 : (j : Int) < (m : Int) := by omega
        have hVr : V < wr.heap.size := Nat.lt_of_lt_of_le HVs.out GW.out.size
        have f0 : wr.frozen? ⟨V, j * 3, none⟩ = false := by rw [HV.out]; exact MJ.out.ef o _ ho (by omega)
        have f1 : wr.frozen? ⟨V, j * 3 + 1, none⟩ = false := by rw [HV.out]; exact MJ.out.ef o _ ho (by omega)
        have f2 : wr.frozen? ⟨V, j * 3 + 2, none⟩ = false := by rw [HV.out]; exact MJ.out.ef o _ ho (by omega)
        obtain ⟨wx, hwx, hbx, rx, hzx⟩ := zcf wr #[.bool y0, .slice P1 y1 k1, .slice Q1 x2 l1] 50
        obtain ⟨b0, b1, b2⟩ := zad rx
        obtain ⟨p0, p1, p2⟩ := zad RPr.out
        obtain ⟨a0, a1, a2⟩ := zad RFr.out
        have CC := Lib.hid (And.intro (zac hbx g0) (And.intro (zac hbx g2) (And.intro (zac hbx ci) (And.intro (zac hbx co) (And.intro b0 (And.intro b1 (And.intro b2 (And.intro (zac hbx p0) (And.intro (zac hbx p1) (And.intro (zac hbx p2) (And.intro (zac hbx a0) (And.intro (zac hbx a1) (And.intro (zac hbx a2) (And.intro (zac hbx i0) (And.intro (zac hbx i1) (zac hbx i2))))))))))))))))
        have EE := Lib.hid (And.intro (zac hbx e0) (And.intro (zac hbx e1) (zac hbx e2)))
        have FF := Lib.hid (And.intro (zbu hbx e0 f0) (And.intro (zbu hbx e1 f1) (zbu hbx e2 f2)))
        have QX := Lib.hid (IsQ.stb.next QC.out hbx)
        have QY := Lib.hid (IsQ.stb.next QI.out hbx)
        have BX := Lib.hid hbx
        have BW : Hid (∀ b, b < w.heap.size → b ≠ V → wx.heap[b]? = w.heap[b]?) := fun b hb hne => (BX.out.block b (Nat.lt_of_lt_of_le hb GW.out.size)).trans (GW.out.block b hb (fun e => hne (by cases e; rfl)))
        have hlt' := hlt
        have Hlt := Lib.hid hlt
        obtain ⟨z, hz⟩ : ∃ x, x = crossZ (A o j) (A i c) (A o c) (A i j) d := ⟨_, rfl⟩
        have HZ := Lib.hid hz
        have hne1 : Hid (wr.heap.size ≠ V) := by rw [Hid]; omega
        have hne2 : Hid ((w.heap.size + 1) ≠ V) := by rw [Hid]; have := HVs.out; omega
        have hne3 : Hid (w.heap.size ≠ V) := by rw [Hid]; have := HVs.out; omega
        have HSm : Same S (Old wx) w wx := fun b hb => ⟨Nat.lt_of_lt_of_le (HM.out.sS b hb) (Nat.le_trans GW.out.size BX.out.size), fun o' => World.cell?_of_block (BW.out b (HM.out.sS b hb) fun e => (HM.out.sep o ho).2.1 (by rw [← HV.out, ← e]; exact hb))⟩
        have QPx : Hid (IsQ wx (Old wx) (.agg #[.bool x0, .slice P x1 k, .slice Q x2 l]) ((A i c : Int) : Rat)) := IsQ.stb.to QP.out HSm
        have QFx : Hid (IsQ wx (Old wx) (.agg #[.bool z0, .slice P' z1 k', .slice Q' x2 l']) ((A o c : Int) : Rat)) := IsQ.stb.to QF.out HSm
        have HDx : Hid (NumS wx (Old wx) (.slice D ld cd) d) := IsK.stb.to HD.out HSm
        clear HSm eq iq hy0 hy1 hq0 hq1 rx hzx hbx b0 b1 b2 f0 f1 f2 hVr hz hlt hlt' p0 p1 p2 a0 a1 a2
        go_wp2_with fail
        clear hwx g0 g2 ci co e0 e1 e2 i0 i1 i2
        have HS : Hid (∀ W : World, Below wx.heap.size wx W → W.cell? ⟨g, 0, none⟩ = some (.slice (some ⟨r0, 0, none⟩) n c0) ∧ W.cell? ⟨g, 2, none⟩ = some (.slice D ld cd) ∧ W.cell? ⟨r0, i, none⟩ = some (.slice (some ⟨U, 0, none⟩) m B) ∧ W.cell? ⟨r0, o, none⟩ = some (.slice (some ⟨V, 0, none⟩) m C) ∧ W.cell? ⟨wr.heap.size, 0, none⟩ = some (.bool y0) ∧ W.cell? ⟨wr.heap.size, 1, none⟩ = some (.slice P1 y1 k1) ∧ W.cell? ⟨wr.heap.size, 2, none⟩ = some (.slice Q1 x2 l1) ∧ W.cell? ⟨(w.heap.size + 1), 0, none⟩ = some (.bool x0) ∧ W.cell? ⟨(w.heap.size + 1), 1, none⟩ = some (.slice P x1 k) ∧ W.cell? ⟨(w.heap.size + 1), 2, none⟩ = some (.slice Q x2 l) ∧ W.cell? ⟨w.heap.size, 0, none⟩ = some (.bool z0) ∧ W.cell? ⟨w.heap.size, 1, none⟩ = some (.slice P' z1 k') ∧ W.cell? ⟨w.heap.size, 2, none⟩ = some (.slice Q' x2 l') ∧ W.cell? ⟨U, j * 3, none⟩ = some (.bool q0) ∧ W.cell? ⟨U, j * 3 + 1, none⟩ = some (.slice P3 q1 k3) ∧ W.cell? ⟨U, j * 3 + 2, none⟩ = some (.slice Q3 x2 l3)) := fun W hW => ⟨zac hW CC.out.1, zac hW CC.out.2.1, zac hW CC.out.2.2.1, zac hW CC.out.2.2.2.1, zac hW CC.out.2.2.2.2.1, zac hW CC.out.2.2.2.2.2.1, zac hW CC.out.2.2.2.2.2.2.1, zac hW CC.out.2.2.2.2.2.2.2.1, zac hW CC.out.2.2.2.2.2.2.2.2.1, zac hW CC.out.2.2.2.2.2.2.2.2.2.1, zac hW CC.out.2.2.2.2.2.2.2.2.2.2.1, zac hW CC.out.2.2.2.2.2.2.2.2.2.2.2.1, zac hW CC.out.2.2.2.2.2.2.2.2.2.2.2.2.1, zac hW CC.out.2.2.2.2.2.2.2.2.2.2.2.2.2.1, zac hW CC.out.2.2.2.2.2.2.2.2.2.2.2.2.2.2.1, zac hW CC.out.2.2.2.2.2.2.2.2.2.2.2.2.2.2.2⟩
        have D1 : Hid (∀ W : World, Below wx.heap.size wx W → Calls Tryd.prog 128 #[.agg #[.bool y0, .slice P1 y1 k1, .slice Q1 x2 l1], .agg #[.bool x0, .slice P x1 k, .slice Q x2 l], .agg #[.bool z0, .slice P' z1 k', .slice Q' x2 l'], .agg #[.bool q0, .slice P3 q1 k3, .slice Q3 x2 l3], .slice D ld cd] W (RetQ W (((z : Int)) : Rat))) := fun W hW => by have h := cross_q (IsQ.stb.next QX.out hW) (IsQ.stb.next QPx.out hW) (IsQ.stb.next QFx.out hW) (IsQ.stb.next QY.out hW) (zal (IsK.stb.next HDx.out hW)) (Hs.out o j ho Hlt.out) (Hs.out i c hi hc) (Hs.out o c ho hc) (Hs.out i j hi Hlt.out) Hdl.out Hd0.out; rw [Rat.num_intCast, Rat.num_intCast, Rat.num_intCast, Rat.num_intCast, ← HZ.out] at h; exact h
        have HP : Hid (∀ W : World, Below wx.heap.size wx W → ∀ x y z, (putE W V j x y z).cell? ⟨g, 0, none⟩ = some (.slice (some ⟨r0, 0, none⟩) n c0) ∧ (putE W V j x y z).cell? ⟨g, 2, none⟩ = some (.slice D ld cd) ∧ (putE W V j x y z).cell? ⟨r0, i, none⟩ = some (.slice (some ⟨U, 0, none⟩) m B) ∧ (putE W V j x y z).cell? ⟨r0, o, none⟩ = some (.slice (some ⟨V, 0, none⟩) m C) ∧ (putE W V j x y z).cell? ⟨wr.heap.size, 0, none⟩ = some (.bool y0) ∧ (putE W V j x y z).cell? ⟨wr.heap.size, 1, none⟩ = some (.slice P1 y1 k1) ∧ (putE W V j x y z).cell? ⟨wr.heap.size, 2, none⟩ = some (.slice Q1 x2 l1) ∧ (putE W V j x y z).cell? ⟨(w.heap.size + 1), 0, none⟩ = some (.bool x0) ∧ (putE W V j x y z).cell? ⟨(w.heap.size + 1), 1, none⟩ = some (.slice P x1 k) ∧ (putE W V j x y z).cell? ⟨(w.heap.size + 1), 2, none⟩ = some (.slice Q x2 l) ∧ (putE W V j x y z).cell? ⟨w.heap.size, 0, none⟩ = some (.bool z0) ∧ (putE W V j x y z).cell? ⟨w.heap.size, 1, none⟩ = some (.slice P' z1 k') ∧ (putE W V j x y z).cell? ⟨w.heap.size, 2, none⟩ = some (.slice Q' x2 l') ∧ (putE W V j x y z).cell? ⟨U, j * 3, none⟩ = some (.bool q0) ∧ (putE W V j x y z).cell? ⟨U, j * 3 + 1, none⟩ = some (.slice P3 q1 k3) ∧ (putE W V j x y z).cell? ⟨U, j * 3 + 2, none⟩ = some (.slice Q3 x2 l3)) := fun W hW x y z => (fun h => ⟨zat h.1 Hgo.out, zat h.2.1 Hgo.out, zat h.2.2.1 (Ne.symm Hr0.out), zat h.2.2.2.1 (Ne.symm Hr0.out), zat h.2.2.2.2.1 hne1.out, zat h.2.2.2.2.2.1 hne1.out, zat h.2.2.2.2.2.2.1 hne1.out, zat h.2.2.2.2.2.2.2.1 hne2.out, zat h.2.2.2.2.2.2.2.2.1 hne2.out, zat h.2.2.2.2.2.2.2.2.2.1 hne2.out, zat h.2.2.2.2.2.2.2.2.2.2.1 hne3.out, zat h.2.2.2.2.2.2.2.2.2.2.2.1 hne3.out, zat h.2.2.2.2.2.2.2.2.2.2.2.2.1 hne3.out, zat h.2.2.2.2.2.2.2.2.2.2.2.2.2.1 HRI.out, zat h.2.2.2.2.2.2.2.2.2.2.2.2.2.2.1 HRI.out, zat h.2.2.2.2.2.2.2.2.2.2.2.2.2.2.2 HRI.out⟩) (HS.out W hW)
        go_region_held3 (fun w' => w'.cell? ⟨g, 0, none⟩ = some (.slice (some ⟨r0, 0, none⟩) n c0) ∧ w'.cell? ⟨g, 2, none⟩ = some (.slice D ld cd) ∧ w'.cell? ⟨r0, i, none⟩ = some (.slice (some ⟨U, 0, none⟩) m B) ∧ w'.cell? ⟨r0, o, none⟩ = some (.slice (some ⟨V, 0, none⟩) m C) ∧ w'.cell? ⟨wr.heap.size, 0, none⟩ = some (.bool y0) ∧ w'.cell? ⟨wr.heap.size, 1, none⟩ = some (.slice P1 y1 k1) ∧ w'.cell? ⟨wr.heap.size, 2, none⟩ = some (.slice Q1 x2 l1) ∧ w'.cell? ⟨(w.heap.size + 1), 0, none⟩ = some (.bool x0) ∧ w'.cell? ⟨(w.heap.size + 1), 1, none⟩ = some (.slice P x1 k) ∧ w'.cell? ⟨(w.heap.size + 1), 2, none⟩ = some (.slice Q x2 l) ∧ w'.cell? ⟨w.heap.size, 0, none⟩ = some (.bool z0) ∧ w'.cell? ⟨w.heap.size, 1, none⟩ = some (.slice P' z1 k') ∧ w'.cell? ⟨w.heap.size, 2, none⟩ = some (.slice Q' x2 l') ∧ w'.cell? ⟨U, j * 3, none⟩ = some (.bool q0) ∧ w'.cell? ⟨U, j * 3 + 1, none⟩ = some (.slice P3 q1 k3) ∧ w'.cell? ⟨U, j * 3 + 2, none⟩ = some (.slice Q3 x2 l3))
          (first | exact HS.out _ (by (repeat (first | exact Below.refl _ _ | assumption | refine zae ?_ _ | refine zaf ?_ | refine zag ?_ ?_ _ _ _ | refine zai ?_ (by omega) | refine zaa ?_ (by assumption))); (first | done | fail)) | exact HP.out _ (by (repeat (first | exact Below.refl _ _ | assumption | refine zae ?_ _ | refine zaf ?_ | refine zag ?_ ?_ _ _ _ | refine zai ?_ (by omega) | refine zaa ?_ (by assumption))); (first | done | fail)) _ _ _)
          (first
            | (go_at_call 128; (with_reducible refine Calls.mono (D1.out _ (by (repeat (first | exact Below.refl _ _ | assumption | refine zae ?_ _ | refine zaf ?_ | refine zag ?_ ?_ _ _ _ | refine zai ?_ (by omega) | refine zaa ?_ (by assumption))); (first | done | fail))) ?_); rintro e w2 ⟨⟨v2, rfl, hv2⟩, hb2⟩; have B2 : Hid (Below wx.heap.size wx w2) := (by (repeat (first | exact Below.refl _ _ | assumption | refine zae ?_ _ | refine zaf ?_ | refine zag ?_ ?_ _ _ _ | refine zai ?_ (by omega) | refine zaa ?_ (by assumption))); (first | done | fail)); obtain ⟨P2, k2, O2, l2, rfl⟩ := isQ_int hv2; have u0 := zac B2.out EE.out.1; have u1 := zac B2.out EE.out.2.1; have u2 := zac B2.out EE.out.2.2; have v0 := zbu B2.out EE.out.1 FF.out.1; have v1 := zbu B2.out EE.out.2.1 FF.out.2.1; have v2 := zbu B2.out EE.out.2.2 FF.out.2.2))
        have MX := Lib.hid ((MJ.out.grow GW.out.size BX.out).grow (Nat.le_trans GW.out.size BX.out.size) B2.out)
        have hq2 : IsQ w2 (SN S w.heap.size w2) (.agg #[.bool (decide (z < 0)), .slice P2 (lim z.natAbs).length k2, .slice O2 (lim 1).length l2]) ((z : Int) : Rat) := IsQ.stb.to hv2 (zay fun b hb => .inr ⟨by have h1 := GW.out.size; have h2 := BX.out.size; have h3 := hb.1; simp at h3; omega, hb.2⟩)
        have HQ2 := Lib.hid hq2
        have hlt := Hlt.out
        have G2 := Lib.hid (zap (zap GR.out (zbe BX.out)) (zbe B2.out))
        clear HS HP D1 hv2 hb2 u0 u1 u2 v0 v1 v2 hq2
        go_wp2_with fail
        go_roundw
        case rel =>
          have hM2 := MX.out.put ho hlt HQ2.out
          rw [← HV.out] at hM2
          refine ⟨j + 1, hlt, by go_num, zes G2.out, ?_⟩
          have e : SN S w.heap.size (putE w2 V j (.bool (decide (z < 0))) (.slice P2 (lim z.natAbs).length k2) (.slice O2 (lim 1).length l2)) = SN S w.heap.size w2 := by unfold SN; rw [zev]
          show MatW _ (SN S w.heap.size (putE w2 V j _ _ _)) _ _ _ _ _ _
          rw [e]
          exact hM2.same fun a b _ _ => by rw [HZ.out]; exact clearTo_succ A i o c d j a b
        case measure => simp [intOf]; omega
      · obtain rfl : j = m := by omega
        go_wp2_with fail
        refine bodyPost_end (results_none rfl _ _ _) rfl ?_
        exact ⟨rfl, MJ.out, GW.out⟩
def SeqD {σ : Type} (F : Fence) (n : Nat) (P : Program) (g : Nat) (lb : Array Value) (Val : Nat → σ → Array Value → Prop) (Rd : σ → World → Prop) (N : Nat) (w : World) : Prop :=
  ∀ (l : Nat) (J : Nat × σ → World → Prop) (W : World), Below w.heap.size w W → AbidesFrom W.heap.size J → (∀ k s W1, J (k, s) W1 → Rd s W1) →
    (∀ k s vs W1, J (k, s) W1 → k < N → Val k s vs → YieldAt F (n - 1) P l vs W1 fun e W' => e = .returned (.bool true) ∧ ∃ s', J (k + 1, s') W') →
    (∀ k s W1, J (k, s) W1 → k < N → (∀ vs, ¬ Val k s vs) → J (k + 1, s) W1) → (∃ s, J (0, s) W) →
    CallsIn F n P g (#[.func (.yield l) #[] #[]] ++ lb) W fun e W' => (∃ v, e = .returned v) ∧ ∃ s, J (N, s) W'
def endD {σ : Type} (B : Nat) (I : Nat × σ → World → Prop) (k : Nat) (W : World) : Exit → Act → World → Prop
  | .normal, _, W' => KeepsFrom B W W' ∧ ∃ s', I (k + 1, s') W'
  | _, _, _ => False
section
variable {F : Fence} {n : Nat} {P : Program}
theorem wpIn_rangeFunc_D {σ : Type} {g : Operand} {ps : Array Tmp} {assign body : Code} {Q : Exit → Act → World → Prop} {a : Act} {w : World}
    (hro : F.round = none) (h1 : 1 ≤ n) {gf : Nat} {lb : Array Value} (hg : a.eval g = .func (.func gf) #[] lb) (hFg : F.fn gf) (eg : ∀ args w, (callFunc gf args).run P w = .ok (.enter gf args) w)
    {Val : Nat → σ → Array Value → Prop} {Rd : σ → World → Prop} {N : Nat} {w0 : World} (hseq : SeqD F (n - 1) P gf lb Val Rd N w0) (hb0 : Below w0.heap.size w0 w) (hps : ∀ k s vs, Val k s vs → vs.size = ps.size)
    (I : Nat × σ → World → Prop) (hI : OwnFrom w.heap.size I) (hRd : ∀ k s W, I (k, s) W → Rd s W) (hskip : ∀ k s W, I (k, s) W → k < N → (∀ vs, ¬ Val k s vs) → I (k + 1, s) W) (h0 : ∃ s, I (0, s) w) (a₁ : Array Value → Act)
    (hassign : ∀ (l k : Nat) (s : σ) (vs : Array Value) (W : World) (K : Act → World → Prop), Val k s vs → K (a₁ vs) W →
      assign.wpIn (F.inRound l) (n - 1 - 1) P (Exit.then K (fun _ _ _ => False)) { tmps := (ps.zip vs).foldl (fun t (p, v) => t.setIfInBounds p v) a.tmps, defers := [] } W)
    (hbody : ∀ (l k : Nat) (s : σ) (vs : Array Value) (W : World), w.heap.size ≤ l → (∃ r, W.heap[l]? = some (.loop r)) → I (k, s) W → k < N → Val k s vs → body.wpIn (F.inRound l) (n - 1 - 1) P (endD w.heap.size I k W) (a₁ vs) W)
    (hdone : ∀ (D : Nat) (s : σ) (W : World), w.heap.size ≤ D → I (N, s) W → W.heap[D]? = some (.deferred (some [])) → Q .normal { a with defers := { target := .collected D, args := #[] } :: a.defers } W) :
    (Code.rangeFunc g ps assign body).wpIn F n P Q a w := by
  refine wpIn_rangeFunc fun fn hfn => ?_
  rw [hro]
  obtain ⟨D, hD⟩ : ∃ D, D = w.heap.size := ⟨_, rfl⟩
  obtain ⟨rec, hrec⟩ : ∃ rec : LoopState → Option Code → Loop, rec = fun st pe => { state := st, pending := pe, fn, tmps := a.tmps, params := ps, assign, body, defers := D } := ⟨_, rfl⟩
  obtain ⟨V, hV⟩ : ∃ V, V = (w.alloc (.deferred (some []))).alloc (.loop (rec .ready none)) := ⟨_, rfl⟩
  have recAt : V.heap[D + 1]? = some (.loop (rec .ready none)) := by
    have h := World.alloc_heap_new (w.alloc (.deferred (some []))) (.loop (rec .ready none))
    rw [World.size_alloc] at h
    rw [hV, hD]
    exact h
  have defAt : V.heap[D]? = some (.deferred (some [])) := by
    rw [hV, hD]
    exact (Below.heap_alloc _ _ _ (by simp)).trans (World.alloc_heap_new w _)
  have hIV : ∃ s, I (0, s) V := by
    obtain ⟨s, hs⟩ := h0
    exact ⟨s, by rw [hV]; exact hI.alloc _ (hI.alloc _ hs)⟩
  have hVsize : V.heap.size = D + 2 := by rw [hV, hD]; simp
  have hbV : Below w0.heap.size w0 V := by
    rw [hV]
    exact hb0.trans ((((Below.refl _ w).alloc (Nat.le_refl _) _).alloc (by simp) _).mono hb0.size)
  rw [← hD] at hI hbody hdone
  refine ⟨D + 1, [{ target := .collected D, args := #[] }], V, { target := .fn (.func gf) lb, args := #[.func (.yield (D + 1)) #[] #[]] }, V, gf, #[.func (.yield (D + 1)) #[] #[]] ++ lb, V, ?_, ?_, ?_, ?_, fun _ => h1, ?_⟩
  · rw [hV, hrec, hD]
    exact run_enterLoop_outer _ _ _ _ _
  · simp only [resolve, hg]
    simp [go_sem]
  · intro f' hf'
    simp [Target.leads] at hf'
    subst hf'
    exact hFg
  · simp [invoke, go_sem, eg]
  have walk : ∀ {A B : World} {row : Option Nat}, (∀ r, row = some r → V.heap.size ≤ r ∧ ∃ o : Obj, A.heap[r]? = some o ∧ o.isWalk = true) → ∀ r, row = some r → D ≤ r ∧ ∃ o : Obj, A.heap[r]? = some o ∧ o.isCells = false := fun hr r e => by
    obtain ⟨hB, o, ho, hw⟩ := hr r e
    exact ⟨by omega, o, ho, Obj.not_cells_of_walk hw⟩
  refine (hseq (D + 1) (fun p W => I p W ∧ W.heap[D + 1]? = some (.loop (rec .ready none)) ∧ W.heap[D]? = some (.deferred (some []))) V hbV
    (fun p A B row hp hg' hr => ⟨hI p A B row hp.1 hg' (walk (B := B) hr), (grownBy_keeps hg' (fun r e => (hr r e).2) hp.2.1 rfl).trans hp.2.1, (grownBy_keeps hg' (fun r e => (hr r e).2) hp.2.2 rfl).trans hp.2.2⟩)
    (fun k s W1 h => hRd k s W1 h.1) ?round (fun k s W1 h hk hn => ⟨hskip k s W1 h.1 hk hn, h.2⟩) (by obtain ⟨s, hs⟩ := hIV; exact ⟨s, hs, recAt, defAt⟩)).mono ?behind
  case behind =>
    rintro e W ⟨⟨v, rfl⟩, s, hs, hl, hk⟩
    have hend := run_endLoop (P := P) hl (by rw [hrec]; simp)
    rw [hrec] at hend
    exact ⟨none, _, hend, hdone D s _ (Nat.le_refl _) (hI.putObj _ hs (by omega) hl rfl) ((World.putObj_heap_other (by omega)).trans hk)⟩
  case round =>
    rintro k s vs W ⟨hi, hl, hk⟩ hkN hval
    have hlt : D + 1 < W.heap.size := (Array.getElem?_eq_some_iff.1 hl).1
    have hy := run_yield (P := P) (args := vs) hl (by rw [hrec]; exact hps k s vs hval)
    rw [hrec] at hy
    refine ⟨fn, _, assign, body, hy, roundIn_of_wpIn hfn (hassign _ k s vs W _ hval ⟨_, run_beginRound hl (by rw [hrec]), ?_⟩)⟩
    obtain ⟨B, hB⟩ : ∃ B, B = W.putObj (D + 1) (.loop { rec .ready none with state := .busy }) := ⟨_, rfl⟩
    have busyAt : B.heap[D + 1]? = some (.loop { rec .ready none with state := .busy }) := by rw [hB]; exact World.putObj_heap_same hlt
    have defB : B.heap[D]? = some (.deferred (some [])) := by rw [hB]; exact (World.putObj_heap_other (by omega)).trans hk
    rw [← hB]
    refine wpIn_mono (hbody (D + 1) k s vs B (by omega) ⟨_, busyAt⟩ (by rw [hB]; exact hI.putObj _ hi (by omega) hl rfl) hkN hval) ?_
    rintro e a3 W3 hp
    cases e with
    | normal =>
      obtain ⟨hk3, s', hs'⟩ := hp
      have hl3 := hk3.same _ _ (by omega) busyAt rfl
      have hend := run_endRound (P := P) none hl3
      rw [hrec] at hend hl3
      refine ⟨_, _, hend, rfl, s', hI.putObj _ hs' (by omega) hl3 rfl, ?_, (World.putObj_heap_other (by omega)).trans (hk3.same _ _ (by omega) defB rfl)⟩
      rw [hrec]
      exact World.putObj_heap_same (Array.getElem?_eq_some_iff.1 hl3).1
    | ret => exact hp.elim
    | exit id => exact hp.elim
    | goto t => exact hp.elim
    | panic ch => exact hp.elim
    | outgrown => exact hp.elim
end
end Go.Proofs.YtjkgdggkgljdoaaDoor
namespace Go.Proofs.YtjkgdggkgljdoaaDoor
open Go.RowKit Go.Shelf
attribute [local go_sem] Oper.semAt_some
set_option linter.unusedVariables false
abbrev GS := (Nat → Nat → Int) × Nat
def FirstRow (A : Nat → Nat → Int) (np n k r : Nat) : Prop := np ≤ r ∧ r < n ∧ A r k ≠ 0 ∧ ∀ x, np ≤ x → x < r → A x k = 0
def ValP (n k : Nat) (s : GS) (vs : Array Value) : Prop := ∃ r, FirstRow s.1 s.2 n k r ∧ vs = #[.int .i64 (k : Int), .int .i64 (r : Int)]
def RdP (g r0 c0 n m width B : Nat) (s : GS) (W : World) : Prop :=
  ∃ S rb cp Pv cv dv, MatW W S r0 rb cp n m s.1 ∧ Row W g 110 [.slice (some ⟨r0, 0, none⟩) n c0, .slice Pv s.2 cv, dv] ∧ s.2 ≤ n ∧ Row W B 105 [.pointer (some ⟨g, 0, none⟩)] ∧ Row W (B + 1) 3 [.int .i64 (width : Int)]
theorem sgn_eq0 (z : Int) : (sgnQ (z : Rat) == 0) = decide (z = 0) := by
  unfold sgnQ
  by_cases h : z = 0
  · subst h; simp
  · have h1 : ¬ ((z : Rat) = 0) := by simpa using h
    rw [if_neg h1, decide_eq_false h]
    split <;> rfl
set_option maxRecDepth 100000 in
set_option maxHeartbeats 4000000 in
theorem places_seq {σ : Type} (π : σ → GS) (q : Nat) (hq : 1 ≤ q) {g r0 c0 n m width B : Nat} {w : World} (hn : n ≤ 100) (hm : m ≤ 100) (hwm : width ≤ m) :
    SeqD Fence.wide q Tryd.prog 129 #[.pointer (some ⟨B + 1, 0, none⟩), .pointer (some ⟨B, 0, none⟩)] (fun k s => ValP n k (π s)) (fun s => RdP g r0 c0 n m width B (π s)) width w := fun l J W hW hJ hRd hY hS hs => by
  obtain ⟨s, h0⟩ := hs
  obtain ⟨S, rb, cp, Pv, cv, dv, a1, a2, a3, a4, a5⟩ := hRd 0 s W h0
  have b1 := a5.cell 0
  simp at b1
  have HJ := Lib.hid hJ
  have HR := Lib.hid hRd
  have HY := Lib.hid hY
  have HS := Lib.hid hS
  clear hJ hRd hY hS a1 a2 a3 a4 a5
  refine callsIn_of_wp Tryd.func129 rfl trivial ?_ rfl
  simp only [Tryd.ntmps129, List.size_toArray, List.length_cons, List.length_nil, Nat.reduceAdd, Nat.reduceSub, Array.replicate_succ, Array.replicate_zero, List.push_toArray, List.append_toArray, List.nil_append, List.cons_append]
  gi_wp2
  clear b1
  gi_loopw [7, 4, 5] (fun i _ _ wr => ∃ (k : Nat) (s : σ), k ≤ width ∧ i = .int .i64 (k : Int) ∧ J (k, s) wr) (fun i _ _ _ => width - (intOf i).toNat)
  case atStart => exact ⟨0, s, Nat.zero_le _, rfl, h0⟩
  case round =>
    obtain ⟨k, s, hk, rfl, hJk⟩ := hrel
    by_cases hlt : k < width
    · obtain ⟨S, rb, cp, Pv, cv, dv, hM, hG, hnp, hB1, hB2⟩ := HR.out k s wr hJk
      have g0 := hG.cell 0
      have g1 := hG.cell 1
      have b0 := hB1.cell 0
      simp at g0 g1 b0
      have HJk := Lib.hid hJk
      clear hM hG hB1 hB2 hJk
      gi_wp2
      clear g0 g1 b0
      gi_loopw [5] (fun i wr => ∃ r : Nat, (π s).2 ≤ r ∧ r ≤ n ∧ i = .int .i64 (r : Int) ∧ J (k, s) wr ∧ Hid (∀ x, (π s).2 ≤ x → x < r → (π s).1 x k = 0)) (fun i _ => n - (intOf i).toNat)
      case atStart => exact ⟨(π s).2, Nat.le_refl _, hnp, rfl, HJk.out, fun x h1 h2 => by omega⟩
      case round =>
        obtain ⟨r, hr1, hr2, rfl, hJr, hz⟩ := hrel
        obtain ⟨S, rb, cp, Pv, cv, dv, hM, hG, hnp, hB1, hB2⟩ := HR.out k s wr hJr
        have g0 := hG.cell 0
        have g1 := hG.cell 1
        have b0 := hB1.cell 0
        simp at g0 g1 b0
        by_cases hrn : r < n
        · have hi0 : (0 : Int) ≤ (r : Int) := by omega
          have hi1 : (r : Int) < (n : Int) := by omega
          have hkm : k < m := by omega
          have hj0 : (0 : Int) ≤ (k : Int) := by omega
          have hj1 : (k : Int) < (m : Int) := by omega
          have ci := hM.hd r hrn
          have cr := zbr
          have hcap := hM.cap r hrn
          obtain ⟨P, k1, Q, l1, e0, e1, e2, eq⟩ := hM.el r k hrn hkm
          have QC := Lib.hid (IsQ.stb.to eq (zay (T := Old wr) hM.sS))
          obtain ⟨V, hV⟩ : ∃ x, x = rb r := ⟨_, rfl⟩
          obtain ⟨C, hC⟩ : ∃ x, x = cp r := ⟨_, rfl⟩
          obtain ⟨x0, hx0⟩ : ∃ x, x = decide ((π s).1 r k < 0) := ⟨_, rfl⟩
          obtain ⟨x1, hx1⟩ : ∃ x, x = (lim ((π s).1 r k).natAbs).length := ⟨_, rfl⟩
          obtain ⟨x2, hx2⟩ : ∃ x, x = (lim 1).length := ⟨_, rfl⟩
          rw [← hV] at ci e0 e1 e2
          rw [← hC] at ci hcap
          rw [← hx0] at e0 QC
          rw [← hx1] at e1 QC
          rw [← hx2] at e2 QC
          have hcap1 := hcap.1
          have hcap2 : C ≤ 9223372036854775807 := by have := hcap.2; unfold maxLen at this; omega
          obtain ⟨sg1, hsg⟩ : ∃ x, x = sgnQ (((π s).1 r k : Int) : Rat) := ⟨_, rfl⟩
          have Hsg := Lib.hid hsg
          obtain ⟨t, ht⟩ : ∃ t : Bool, t = decide ((π s).1 r k = 0) := ⟨_, rfl⟩
          have ht2 : (sg1 == 0) = t := by rw [hsg, ht]; exact sgn_eq0 _
          have Ht := Lib.hid ht
          have HJr := Lib.hid hJr
          clear hM hG hB1 hB2 hJr eq hV hC hx0 hx1 hx2 hsg ht hcap
          gi_wp2
          refine ⟨trivial, callsIn_wide.2 ((sign_q QC.out).mono ?_)⟩
          rw [← Hsg.out]
          rintro e w1 ⟨rfl, hb⟩
          have hJ1 := HJ.out _ _ _ none HJr.out (⟨hb.os, hb.tape, hb.output, hb.size, fun j hj _ => hb.block j hj⟩) (fun r e => by cases e)
          replace g0 := zac hb g0
          replace b0 := zac hb b0
          have HJ1 := Lib.hid hJ1
          clear hb g1 ci e0 e1 e2
          cases t with
          | true =>
            clear g0 b0
            have hz0 : (π s).1 r k = 0 := of_decide_eq_true Ht.out.symm
            have Hz0 := Lib.hid hz0
            clear hz0 hJ1
            gi_wp2
            go_roundw
            case rel => exact ⟨r + 1, by omega, by omega, by go_num, HJ1.out, fun x h1 h2 => (Nat.lt_or_ge x r).elim (fun h => hz.out x h1 h) (fun h => by have e : x = r := (by omega); rw [e]; exact Hz0.out)⟩
            case measure => simp [intOf]; omega
          | false =>
            have hz0 : (π s).1 r k ≠ 0 := of_decide_eq_false Ht.out.symm
            obtain ⟨fn, tmps, assign, body, hyy, hR⟩ := HY.out k s #[.int .i64 (k : Int), .int .i64 (r : Int)] w1 hJ1 hlt ⟨r, ⟨hr1, hrn, hz0, hz.out⟩, rfl⟩
            have HRn := Lib.hid hR
            clear hz0 hJ1 hR
            gi_wp2
            refine HRn.out.mono ?_
            rintro e W3 ⟨rfl, s', hJ3⟩
            gi_wp2
            go_roundw
            case rel => exact ⟨k + 1, s', hlt, by go_num, hJ3⟩
            case measure => simp [intOf]; omega
        · have hrn' : r = n := by omega
          have hJ1 := HS.out k s wr hJr hlt fun vs hv => by
            obtain ⟨r', ⟨h1, h2, h3, h4⟩, _⟩ := hv
            exact h3 (hz.out r' h1 (by omega))
          have HJ1 := Lib.hid hJ1
          clear hM hG hB1 hB2 hJ1 hJr
          gi_wp2
          refine ⟨trivial, ?_⟩
          gi_wp2
          refine ⟨fun f h => (by cases h), ?_⟩
          gi_wp2
          go_roundw
          case rel => exact ⟨k + 1, s, hlt, by go_num, HJ1.out⟩
          case measure => simp [intOf]; omega
    · obtain rfl : k = width := by omega
      have HJk := Lib.hid hJk
      clear hJk
      gi_wp2
      go_end0
      exact ⟨⟨_, rfl⟩, s, HJk.out⟩
theorem places_n (w : World) (g width : Nat) :
    Calls Tryd.prog 106 #[.pointer (some ⟨g, 0, none⟩), .int .i64 (width : Int)] w fun e w' => e = .returned (.func (.func 129) #[] #[.pointer (some ⟨w.heap.size + 1, 0, none⟩), .pointer (some ⟨w.heap.size, 0, none⟩)]) ∧
      Below w.heap.size w w' ∧ Row w' w.heap.size 105 [.pointer (some ⟨g, 0, none⟩)] ∧ Row w' (w.heap.size + 1) 3 [.int .i64 (width : Int)] ∧ w'.heap.size = w.heap.size + 2 := by
  go_enter Tryd.func106, Tryd.ntmps106
  go_wp2
  go_ret
  obtain ⟨w0, hw0, h1, h2, h3, h4⟩ := zfp w #[.pointer (some ⟨g, 0, none⟩)] #[.int .i64 (width : Int)] 105 3
  rw [hw0]
  exact ⟨rfl, h1, h2, h3, h4.out⟩
end Go.Proofs.YtjkgdggkgljdoaaDoor
namespace Go.Proofs.YtjkgdggkgljdoaaDoor
open Go.RowKit
set_option linter.unusedVariables false
theorem zed {P : Program} {w : World} (mty kt et : TypeId) (r clock : Nat) (es : Array MapEntry) (k : Int) (val : Value) (hm : P.underlying mty = some (.map kt et)) (hk : P.underlying kt = some (.int .i64)) (hb : w.heap[r]? = some (.map es clock))
    (hf : Instr.findNow (.int .i64) (.int .i64 k) es.toList 0 = some none) :
    (Instr.mapUpdate mty (.map (some r)) (.int .i64 k) val).run P w = .ok () (w.putObj r (.map (es.push { key := .int .i64 k, val := val, born := clock }) (clock + 1))) := by
  have hc : (Instr.checkKey false 10000 kt (.int .i64 k)).run P w = .ok () w := MapKept.run_checkKey (k := .int .i64 k) hk (by simp [MapKept.IsKey]) false 9999
  simp [Instr.mapUpdate, run_underlying hm, MapKept.run_getObj_map hb, hc, MapKept.run_findKey hk hf, MapKept.run_setObj_map _ hb, Result.andThen]
  rfl
theorem zfn {P : Program} {w : World} (mty kt et : TypeId) (r clock : Nat) (es : Array MapEntry) (k : Int) (i : Nat) (v : Value) (hm : P.underlying mty = some (.map kt et)) (hk : P.underlying kt = some (.int .i64)) (hb : w.heap[r]? = some (.map es clock))
    (hf : Instr.findNow (.int .i64) (.int .i64 k) es.toList 0 = some (some (i, v))) :
    (Instr.lookup mty (.map (some r)) (.int .i64 k) false).run P w = .ok v w := by
  have hc : ∀ b, (Instr.checkKey b 10000 kt (.int .i64 k)).run P w = .ok () w := fun b => MapKept.run_checkKey (k := .int .i64 k) hk (by simp [MapKept.IsKey]) b 9999
  simp [Instr.lookup, run_underlying hm, MapKept.run_getObj_map hb, hc, MapKept.run_findKey hk hf, Result.andThen]
end Go.Proofs.YtjkgdggkgljdoaaDoor
