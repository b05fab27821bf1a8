/-
  The walk of package vector's reduced.
-/
import Derived.Test.YtjkgdggkgljdoaaDoorVinv10
import Derived.Test.YtjkgdggkgljdoaaDoorVinv12
import Derived.Test.YtjkgdggkgljdoaaDoorVinv13
import Derived.Test.YtjkgdggkgljdoaaDoorVinv02
import Derived.Test.YtjkgdggkgljdoaaDoorVinv14
namespace Go.Proofs.YtjkgdggkgljdoaaDoor
open Go.RowKit
set_option linter.unusedVariables false
attribute [local go_sem] Oper.semAt_some
theorem open131 {l : List Value} (h : l.length = 131) : ∃ fs : Nat → Value, l = [fs 0, fs 1, fs 2, fs 3, fs 4, fs 5, fs 6, fs 7, fs 8, fs 9, fs 10, fs 11, fs 12, fs 13, fs 14, fs 15, fs 16, fs 17, fs 18, fs 19, fs 20, fs 21, fs 22, fs 23, fs 24, fs 25, fs 26, fs 27, fs 28, fs 29, fs 30, fs 31, fs 32, fs 33, fs 34, fs 35, fs 36, fs 37, fs 38, fs 39, fs 40, fs 41, fs 42, fs 43, fs 44, fs 45, fs 46, fs 47, fs 48, fs 49, fs 50, fs 51, fs 52, fs 53, fs 54, fs 55, fs 56, fs 57, fs 58, fs 59, fs 60, fs 61, fs 62, fs 63, fs 64, fs 65, fs 66, fs 67, fs 68, fs 69, fs 70, fs 71, fs 72, fs 73, fs 74, fs 75, fs 76, fs 77, fs 78, fs 79, fs 80, fs 81, fs 82, fs 83, fs 84, fs 85, fs 86, fs 87, fs 88, fs 89, fs 90, fs 91, fs 92, fs 93, fs 94, fs 95, fs 96, fs 97, fs 98, fs 99, fs 100, fs 101, fs 102, fs 103, fs 104, fs 105, fs 106, fs 107, fs 108, fs 109, fs 110, fs 111, fs 112, fs 113, fs 114, fs 115, fs 116, fs 117, fs 118, fs 119, fs 120, fs 121, fs 122, fs 123, fs 124, fs 125, fs 126, fs 127, fs 128, fs 129, fs 130] := by
  refine ⟨fun i => l.getD i undef, ?_⟩
  have e : l = (List.range 131).map (fun i => l.getD i undef) := by
    apply List.ext_getElem
    · simp [h]
    · intro i h1 h2
      simp [List.getD_eq_getElem?_getD, List.getElem?_eq_getElem h1]
  exact e.trans rfl
structure Bld (w : World) (base G GV m k : Nat) (vr : Value) (S : Nat → Prop) (rb cp : Nat → Nat) (A : Nat → Nat → Int) : Prop where
  own : OwnS 1 29 IsVal w base (fun _ => False) vr (heads k m rb cp)
  lines : ∀ i, i < k → LineW w S (rb i) (cp i) m (A i)
  inj : ∀ i j, i < k → j < k → rb i = rb j → i = j
  sep : ∀ i, i < k → base ≤ rb i ∧ rb i < w.heap.size ∧ vr.ownBlock ≠ some (rb i) ∧ ¬ S (rb i)
  sS : ∀ b, S b → b < w.heap.size ∧ b ≠ G ∧ b ≠ GV ∧ vr.ownBlock ≠ some b
set_option maxRecDepth 100000 in
set_option maxHeartbeats 8000000 in
theorem reduced_l {w : World} {vm : Value} {M : List (List Rat)} {n m width : Nat} (h : IsM w (Old w) vm (rawM M)) (hB : Bru w) (hn : M.length = n) (hrow : ∀ r ∈ M, r.length = m) (hs : ∀ r ∈ M, ∀ q ∈ r, Sz q 1024) (hn1 : 1 ≤ n) (hn9 : n ≤ 40) (hm1 : 1 ≤ m) (hm9 : m ≤ 80) (hwm : width ≤ m) (hbnd : ∀ k, k ≤ width → BndS n m (runK n m (zbj M) k)) :
    Calls Tryd.prog 66 #[vm, .int .i64 (width : Int)] w fun e w' => (∃ v, e = .returned v ∧ IsGr w' v n m (runK n m (zbj M) width)) ∧ Below w.heap.size w w' := by
  have HM := Lib.hid h
  have HB := Lib.hid hB
  have Hrow := Lib.hid hrow
  have Hs := Lib.hid hs
  have Hn := Lib.hid hn
  have Hwm := Lib.hid hwm
  have Hbnd := Lib.hid hbnd
  obtain ⟨R, cR, rfl, hxl⟩ := zca h
  have el : (rawM M).length = n := by simp [rawM, hn]
  rw [el] at HM hxl ⊢
  clear h hB hn hrow hs el hwm hbnd
  refine (callsIn_wide (n := 3)).1 ?_
  refine callsIn_of_wp_marks Tryd.func66 rfl trivial ?_ rfl
  simp only [Tryd.ntmps66, List.size_toArray, List.length_cons, List.length_nil, Nat.reduceAdd, Nat.reduceSub, Array.replicate_succ, Array.replicate_zero, List.push_toArray, List.append_toArray, List.nil_append, List.cons_append]
  refine wpIn_wide.2 ?_
  go_wp2_with fail
  refine (one_n w).mono ?_
  rintro e w0 ⟨⟨v0, rfl, hv0⟩, hb0⟩
  have V0 := Lib.hid (isN_new hv0)
  have B0 := Lib.hid hb0
  obtain ⟨D0, d0, rfl, _, _, _⟩ := id hv0
  obtain ⟨o1, ho1⟩ : ∃ x, x = (lim 1).length := ⟨_, rfl⟩
  have Ho1 := Lib.hid ho1
  rw [← ho1] at V0 ⊢
  clear hv0 hb0 ho1
  obtain ⟨wb, hwb, hbb, rG, rV, Hz⟩ := zfp w0 #[.slice none 0 0, .slice none 0 0, .slice D0 o1 d0] #[.pointer (some ⟨w0.heap.size, 0, none⟩)] 110 105
  have BB := Lib.hid hbb
  have RG := Lib.hid rG
  have RV := Lib.hid rV
  clear hbb rG rV
  go_wp2_with fail
  clear hwb
  obtain ⟨G, hG⟩ : ∃ G, G = w0.heap.size := ⟨_, rfl⟩
  rw [← hG] at RG RV ⊢
  have HG := Lib.hid hG
  have Bw := Lib.hid (zaa B0.out BB.out)
  have Hbs : Hid (w.heap.size ≤ G ∧ wb.heap.size = G + 2) := by rw [Hid, hG]; exact ⟨B0.out.size, Hz.out⟩
  have hS0 : Hid (∀ b, New w.heap.size w0 b → b < wb.heap.size ∧ b ≠ G ∧ b ≠ G + 1) := fun b hb => by have h1 := hb.2; have h2 := Hbs.out.2; omega
  clear hG
  go_loopw [21, 7, 8, 9, 11] (fun ii _ _ _ _ wr => ∃ (k : Nat) (vr : Value) (S : Nat → Prop) (rb cp : Nat → Nat), k ≤ n ∧ ii = .int .i64 (k : Int) ∧ Below w.heap.size w wr ∧ Row wr G 110 [vr, .slice none 0 0, .slice D0 o1 d0] ∧ Row wr (G + 1) 105 [.pointer (some ⟨G, 0, none⟩)] ∧ Hid (Bld wr wb.heap.size G (G + 1) m k vr S rb cp (zbj M) ∧ NumS wr S (.slice D0 o1 d0) 1 ∧ wb.heap.size ≤ wr.heap.size)) (fun ii _ _ _ _ _ => n - (intOf ii).toNat)
  case atStart =>
    refine ⟨0, _, New w.heap.size w0, fun _ => 0, fun _ => 0, Nat.zero_le _, rfl, Bw.out, RG.out, RV.out, ⟨OwnS.nil (fun b h => h.elim), fun i h => by omega, fun i j h => by omega, fun i h => by omega, fun b hb => ?_⟩, IsK.stb.to V0.out fun b hb => ⟨hb, fun o => BB.out.cell (p := ⟨b, o, none⟩) hb.2⟩, Nat.le_refl _⟩
    exact ⟨(hS0.out b hb).1, (hS0.out b hb).2.1, (hS0.out b hb).2.2, fun e => by cases e⟩
  case round =>
    obtain ⟨wo, rfl⟩ : ∃ x, x = wr := ⟨_, rfl⟩
    obtain ⟨k, vr, S, rb, cp, hk, rfl, hbw, hG, hV, hbld⟩ := hrel
    have HW := Lib.hid hbw
    have RGo := Lib.hid hG
    have RVo := Lib.hid hV
    have Hbld := Lib.hid hbld.out
    have hszo := hbld.out.2.2
    have Hk := Lib.hid hk
    clear hbw hG hV hbld
    rcases Nat.lt_or_ge k n with hlt | hge
    · obtain ⟨row, hr, hrr⟩ := zeg (m := M) (j := k) (by rw [Hn.out]; exact hlt)
      have hrl : row.length = m := Hrow.out row (List.mem_of_getElem? hr)
      have hrs : ∀ q ∈ row, Sz q 1024 := Hs.out row (List.mem_of_getElem? hr)
      obtain ⟨b2, o2, Y1, Y2, rfl, hSb2, helr, d2⟩ := zcr (IsM.stb.to HM.out (zba HW.out)) hrr
      have er : (rawV row).length = m := by simp [rawV, hrl]
      rw [er] at d2 helr
      have HRow := Lib.hid helr
      have Hr := Lib.hid hr
      have Hrs := Lib.hid hrs
      have Hrl := Lib.hid hrl
      have hk0 : (0 : Int) ≤ (k : Int) := by omega
      have hk1 : (k : Int) < (n : Int) := by omega
      have Hlt := Lib.hid hlt
      clear hr hrr helr hrs hrl er hlt
      go_wp2_with fail
      clear d2
      refine (lcm_n HRow.out (Bru.next HB.out HW.out) Hrs.out (by rw [Hrl.out]; omega)).mono ?_
      rintro e w1 ⟨⟨vc, rfl, hvc⟩, hb1⟩
      obtain ⟨L, hL⟩ : ∃ L, L = zdy row := ⟨_, rfl⟩
      rw [← hL] at hvc
      have HL := Lib.hid hL
      have HLl : Hid ((lim L).length ≤ 100000) := by rw [Hid, hL]; have := lcmTo_len Hrs.out; rw [Hrl.out] at this; omega
      obtain ⟨C, cC, rfl, _, _, _⟩ := id hvc
      obtain ⟨lc, hcl⟩ : ∃ x, x = (lim L).length := ⟨_, rfl⟩
      rw [← hcl] at hvc ⊢
      have VC := Lib.hid (isN_new hvc)
      have BL1 := Lib.hid hb1
      have HW1 := Lib.hid (zaa HW.out hb1)
      clear hvc hb1 hL hcl
      go_wp2_with (at_make; refine zdl elR rfl _ _ rfl IsR m rfl rfl rfl (by omega) (base := w1.heap.size) (S := fun _ => False) (Nat.le_refl _) (fun b h => h.elim) ?_; intro v2 w2 hown2 hb2 hz2)
      have O2 := Lib.hid hown2
      have B2 := Lib.hid hb2
      clear hown2 hb2
      go_loopw [32, 9, 11] (fun ii line _ wr => ∃ (j : Nat) (S2 : Nat → Prop), j ≤ m ∧ ii = .int .i64 (j : Int) ∧ Below w1.heap.size w1 wr ∧ OwnS 3 50 IsR wr w1.heap.size S2 line (rawV (ints j (zbj M k))) ∧ Hid (∀ b, S2 b → w1.heap.size ≤ b)) (fun ii _ _ _ => m - (intOf ii).toNat)
      case atStart => exact ⟨0, fun _ => False, Nat.zero_le _, rfl, B2.out, O2.out, fun b h => h.elim⟩
      case round =>
        obtain ⟨j, S2, hj, rfl, hbi, hown, hS2⟩ := hrel
        have HI := Lib.hid hbi
        have OI := Lib.hid hown
        have HWi := Lib.hid (zaa HW1.out hbi)
        clear hbi hown
        rcases Nat.lt_or_ge j m with hjm | hjm
        · obtain ⟨x, hx, hrx⟩ := zeh (l := row) (j := j) (by rw [Hrl.out]; exact hjm)
          obtain ⟨b1, o3, X1, X2, X3, X4, rfl, _, helb, c0, c1, c2⟩ := zdn (IsV.stb.to HRow.out (zba (zaa BL1.out HI.out))) hrx
          obtain ⟨bb0, e0⟩ : ∃ s, s = (raw x).neg := ⟨_, rfl⟩
          obtain ⟨bb1, e1⟩ : ∃ s, s = (raw x).num.length := ⟨_, rfl⟩
          obtain ⟨bb2, e2⟩ : ∃ s, s = (raw x).den.length := ⟨_, rfl⟩
          rw [← e0] at c0 helb
          rw [← e1] at c1 helb
          rw [← e2] at c2 helb
          have QX := Lib.hid (isR_isQ helb)
          have Hxs := Lib.hid (Hrs.out x (List.mem_of_getElem? hx))
          have Hz1 : Hid (zbj M k j = x.num * ((L / x.den : Nat) : Int)) := by rw [Hid, HL.out]; exact liftM_at Hr.out hx
          have Hpos : Hid (0 < L / x.den) := by
            rw [Hid, HL.out]
            exact Nat.div_pos (Nat.le_of_dvd (lcmTo_pos row) (lcmTo_dvd (List.mem_of_getElem? hx))) x.den_pos
          have cr := zbr
          have hj0 : (0 : Int) ≤ (j : Int) := by omega
          have hj1 : (j : Int) < (m : Int) := by omega
          obtain ⟨wx, hwx, hbx, rx, hzx⟩ := zcf wr #[.bool bb0, .slice X1 bb1 X2, .slice X3 bb2 X4] 50
          have BX := Lib.hid hbx
          have QX1 := Lib.hid (IsQ.stb.next QX.out hbx)
          have VCx := Lib.hid (zal (IsK.stb.old (IsK.stb.fresh (IsK.stb.fresh VC.out HI.out) hbx)))
          obtain ⟨x0, x1, x2⟩ := zad rx
          have Hjm := Lib.hid hjm
          obtain ⟨z, hz⟩ : ∃ z, z = x.num * ((L / x.den : Nat) : Int) := ⟨_, rfl⟩
          have HZ := Lib.hid hz
          clear hx hrx helb e0 e1 e2 rx hzx hbx hjm hz
          go_wp2_with fail
          clear hwx c0 c1 c2
          refine (lift_q QX1.out VCx.out (Hxs.out.le (by omega)) (Nat.le_trans HLl.out (by omega)) Hpos.out).mono ?_
          rw [← HZ.out]
          rintro e w4 ⟨⟨v4, rfl, hv4⟩, hb4⟩
          obtain ⟨P4, k4, Q4, l4, rfl⟩ := isQ_int hv4
          have BB4 := Lib.hid (zaa BX.out hb4)
          have hown4 := OwnS.step IsR.stb (T := fun b => S2 b ∨ (wr.heap.size ≤ b ∧ b < w4.heap.size)) OI.out BB4.out (fun b h => .inl h) (fun b h => h)
          have hel4 := IsQ.stb.to hv4 (zay (T := fun b => S2 b ∨ (wr.heap.size ≤ b ∧ b < w4.heap.size)) fun b h => .inr ⟨Nat.le_trans BX.out.size h.1, h.2⟩)
          have HI4 := Lib.hid (zaa HI.out BB4.out)
          have hbase : w1.heap.size ≤ w4.heap.size := HI4.out.size
          have hszi := HI.out.size
          have hjm := Hjm.out
          clear hb4 hv4 x0 x1 x2
          go_wp2_with (at_builtin; refine zcp elR rfl _ _ rfl IsR.stb rfl rfl rfl hown4 hel4 rfl (by intro u hu; simp [Value.cells] at hu; rcases hu with rfl | rfl | rfl <;> rfl) (by rw [show (rawV (ints j (zbj M k))).length = j by simp [rawV, ints_len]]; omega) hbase ?_; intro v5 w5 hown5 hb5 hz5)
          go_roundw
          case rel =>
            refine ⟨j + 1, fun b => S2 b ∨ (wr.heap.size ≤ b ∧ b < w4.heap.size), hjm, by go_num, HI4.out.trans hb5, ?_, fun b hb => by rcases hb with hb | hb; exact hS2.out b hb; omega⟩
            rw [ints_snoc, rawV, List.map_append, Hz1.out, ← HZ.out]
            exact hown5
          case measure => simp [intOf]; omega
        · obtain rfl : m = j := by omega
          obtain ⟨wn, rfl⟩ : ∃ x, x = wr := ⟨_, rfl⟩
          obtain ⟨bl, cl, rfl, hbl1, hbl2, hbl3, hLW⟩ := OI.out.line hm1
          have HLW := Lib.hid hLW
          have Hbl := Lib.hid (And.intro hbl1 (And.intro hbl2 hbl3))
          have hSx2 : Hid (∀ b, S2 b → b < wn.heap.size) := fun b hb => by obtain ⟨_, _, _, _, h4⟩ := OI.out; exact (h4 b hb).1
          obtain ⟨hs, hhs⟩ : ∃ x, x = heads k m rb cp := ⟨_, rfl⟩
          obtain ⟨base, hbase⟩ : ∃ x, x = wb.heap.size := ⟨_, rfl⟩
          have Hhs := Lib.hid hhs
          have Hbase := Lib.hid hbase
          have B1n := Lib.hid (zaa BL1.out HI.out)
          have hov := OwnS.own_lt Hbld.out.1.own
          have hown : OwnS 1 29 IsVal wn base (fun _ => False) vr hs := by
            rw [hhs, hbase]
            exact OwnS.step IsVal.stb Hbld.out.1.own B1n.out (fun b h => h) (fun b h => .inl h)
          have Own := Lib.hid hown
          have SM : Hid (hs.length < 100) := by rw [Hid, hhs, heads_len]; omega
          have SBs : Hid (base ≤ wn.heap.size) := by rw [Hid, hbase]; have := B1n.out.size; omega
          have SG : Hid (∀ b, vr.ownBlock = some b → (G + 1) ≠ b ∧ G ≠ b) := fun b e => by have := (hov b e).1; have := Hbs.out.2; omega
          have Svr : Hid (∀ b, vr.ownBlock = some b → b < wo.heap.size) := fun b e => (hov b e).2
          have Svn : Hid (∀ b, vr.ownBlock = some b → b < wn.heap.size) := fun b e => by have := (hov b e).2; have := B1n.out.size; omega
          have RGn := Lib.hid (RGo.out.next B1n.out)
          have RVn := Lib.hid (RVo.out.next B1n.out)
          clear hbl1 hbl2 hbl3 hLW hhs hbase hov hown hszo
          go_wp2_with fail
          refine region_abs fun ops hops => ?_
          have oq0 := zax (j := 0) hops rfl
          have oq1 := zax (j := 1) hops rfl
          have oq2 := zax (j := 2) hops rfl
          have oq3 := zax (j := 3) hops rfl
          have oq4 := zax (j := 4) hops rfl
          have oq5 := zax (j := 5) hops rfl
          have oq6 := zax (j := 6) hops rfl
          have oq7 := zax (j := 7) hops rfl
          have oq8 := zax (j := 8) hops rfl
          have oq9 := zax (j := 9) hops rfl
          have oq10 := zax (j := 10) hops rfl
          have fr := fun t h => zey (n := 10) hops t h
          refine zfk 10 (PhiR G vr hs bl m cl wn.heap.size base) (PreR base vr hs) (JR (G + 1) G [vr, .slice none 0 0, .slice D0 o1 d0] vr.ownBlock wn) (fun k w w' => w.grownBy w' (blkR vr k)) (by kernel_rfl) ?hJ0 ?hP0 ?hPs ?hst (by rw [hops]; kernel_rfl) (by rw [hops]; kernel_rfl) ?step ?fin
          case hJ0 => exact ⟨RVn.out, RGn.out, (Kept.refl _ _ _ _).step (zbe (row := none) (zab _)) (.inl rfl)⟩
          case hP0 => exact fun i _ => Own.out
          case hPs =>
            intro i k' wa wb' hik h hJ hE e7
            subst e7
            refine OwnS.grown IsVal.stb (h rfl) hE fun b e => ?_
            unfold blkR at e
            split at e
            · exact absurd rfl (Ne.symm hik)
            · cases e
          case hst => exact fun i k' v wa wb' X u hik hX h hJ hE => phiR_st Svn.out i k' v wa wb' X u hik hX h hE
          case step =>
            intro i o hin hi a W X hsz hdf hJ hP hXi hfree hdep
            obtain ⟨T, df⟩ := a
            replace hsz : T.size = 131 := hsz
            obtain rfl : df = [] := hdf
            match i, hin, hi, hXi, hP with
            | 0, _, hi, hXi, hP =>
              obtain rfl := Option.some.inj (oq0.symm.trans hi)
              have e5 : T[5]? = some (.pointer (some ⟨(G + 1), 0, none⟩)) := hfree 5 (fr 5 (by kernel_rfl))
              have c0 := hJ.1.cell 0
              simp at c0
              refine zaj rfl ?_
              refine zao (E := fun w' => W.grownBy w' (none)) (Φ := PhiR G vr hs bl m cl wn.heap.size base 0) fun K hK => ?_
              clear hdep hfree hsz hops fr oq0 oq1 oq2 oq3 oq4 oq5 oq6 oq7 oq8 oq9 oq10
              go_simp
              exact hK (.pointer (some ⟨G, 0, none⟩)) _ (zak _ _) hJ rfl
            | 1, _, hi, hXi, hP =>
              obtain rfl := Option.some.inj (oq1.symm.trans hi)
              have e5 : T[5]? = some (.pointer (some ⟨(G + 1), 0, none⟩)) := hfree 5 (fr 5 (by kernel_rfl))
              have c0 := hJ.1.cell 0
              simp at c0
              refine zaj rfl ?_
              refine zao (E := fun w' => W.grownBy w' (none)) (Φ := PhiR G vr hs bl m cl wn.heap.size base 1) fun K hK => ?_
              clear hdep hfree hsz hops fr oq0 oq1 oq2 oq3 oq4 oq5 oq6 oq7 oq8 oq9 oq10
              go_simp
              exact hK (.pointer (some ⟨G, 0, none⟩)) _ (zak _ _) hJ rfl
            | 2, _, hi, hXi, hP =>
              obtain rfl := Option.some.inj (oq2.symm.trans hi)
              have d44 : (T.getD 44 undef) = .pointer (some ⟨G, 0, none⟩) := (hdep 1 _ (odt (by kernel_rfl)) oq1).2
              have e44 := zan (by omega) d44
              clear d44
              refine zaj rfl ?_
              refine zao (E := fun w' => W.grownBy w' (none)) (Φ := PhiR G vr hs bl m cl wn.heap.size base 2) fun K hK => ?_
              clear hdep hfree hsz hops fr oq0 oq1 oq2 oq3 oq4 oq5 oq6 oq7 oq8 oq9 oq10
              go_simp
              exact hK (.pointer (some ⟨G, 0, none⟩)) _ (zak _ _) hJ rfl
            | 3, _, hi, hXi, hP =>
              obtain rfl := Option.some.inj (oq3.symm.trans hi)
              have d45 : (T.getD 45 undef) = .pointer (some ⟨G, 0, none⟩) := (hdep 2 _ (odt (by kernel_rfl)) oq2).2
              have e45 := zan (by omega) d45
              clear d45
              refine zaj rfl ?_
              refine zao (E := fun w' => W.grownBy w' (none)) (Φ := PhiR G vr hs bl m cl wn.heap.size base 3) fun K hK => ?_
              clear hdep hfree hsz hops fr oq0 oq1 oq2 oq3 oq4 oq5 oq6 oq7 oq8 oq9 oq10
              go_simp
              exact hK (.pointer (some ⟨G, 0, none⟩)) _ (zak _ _) hJ rfl
            | 4, _, hi, hXi, hP =>
              obtain rfl := Option.some.inj (oq4.symm.trans hi)
              have d46 : (T.getD 46 undef) = .pointer (some ⟨G, 0, none⟩) := (hdep 3 _ (odt (by kernel_rfl)) oq3).2
              have e46 := zan (by omega) d46
              clear d46
              obtain ⟨c0, c1, c2⟩ := zad hJ.2.1
              refine zaj rfl ?_
              refine zao (E := fun w' => W.grownBy w' (none)) (Φ := PhiR G vr hs bl m cl wn.heap.size base 4) fun K hK => ?_
              clear hdep hfree hsz hops fr oq0 oq1 oq2 oq3 oq4 oq5 oq6 oq7 oq8 oq9 oq10
              go_simp
              exact hK (vr) _ (zak _ _) hJ rfl
            | 5, _, hi, hXi, hP =>
              obtain rfl := Option.some.inj (oq5.symm.trans hi)
              have e9 : T[9]? = some (.slice (some ⟨bl, 0, none⟩) m cl) := hfree 9 (fr 9 (by kernel_rfl))
              refine zaj rfl ?_
              refine zao (E := fun w' => W.grownBy w' (none)) (Φ := PhiR G vr hs bl m cl wn.heap.size base 5) fun K hK => ?_
              clear hdep hfree hsz hops fr oq0 oq1 oq2 oq3 oq4 oq5 oq6 oq7 oq8 oq9 oq10
              go_simp
              exact hK (.slice (some ⟨bl, 0, none⟩) m cl) _ (zak _ _) hJ rfl
            | 6, _, hi, hXi, hP =>
              obtain rfl := Option.some.inj (oq6.symm.trans hi)
              have d48 : (T.getD 48 undef) = .slice (some ⟨bl, 0, none⟩) m cl := (hdep 5 _ (odt (by kernel_rfl)) oq5).2
              have e48 := zan (by omega) d48
              clear d48
              refine zaj rfl ?_
              refine zao (E := fun w' => W.grownBy w' (none)) (Φ := PhiR G vr hs bl m cl wn.heap.size base 6) fun K hK => ?_
              clear hdep hfree hsz hops fr oq0 oq1 oq2 oq3 oq4 oq5 oq6 oq7 oq8 oq9 oq10
              go_simp
              exact hK (.slice (some ⟨W.heap.size, 0, none⟩) 1 1) _ (zdh _ _ _) (hJ.step (zdh _ _ _) (.inl rfl) (fun b e => by cases e)) ⟨W.heap.size, rfl, hJ.2.2.size, heap_alloc_new _ _⟩
            | 7, _, hi, hXi, hP =>
              obtain rfl := Option.some.inj (oq7.symm.trans hi)
              have d47 : (T.getD 47 undef) = vr := (hdep 4 _ (odt (by kernel_rfl)) oq4).2
              have e47 := zan (by omega) d47
              clear d47
              have d49 : NewRow W wn.heap.size 29 [.slice (some ⟨bl, 0, none⟩) m cl] (T.getD 49 undef) := (hdep 6 _ (odt (by kernel_rfl)) oq6).2
              obtain ⟨v49, e49, g49⟩ := zci (T := T) (t := 49) (by omega)
              rw [g49] at d49
              clear g49
              refine zaj rfl ?_
              refine zao (E := fun w' => W.grownBy w' (vr.ownBlock)) (Φ := PhiR G vr hs bl m cl wn.heap.size base 7) fun K hK => ?_
              clear hdep hfree hsz hops fr oq0 oq1 oq2 oq3 oq4 oq5 oq6 oq7 oq8 oq9 oq10
              obtain ⟨h49, rfl, hh1, hh2⟩ := d49
              refine step_appG elV (.tmp 47) (.tmp 49) rfl IsVal.stb (zei e47) (zei e49) (ev := .slice (some ⟨bl, 0, none⟩) m cl) hh2 (hP rfl) rfl rfl (by intro u hu; simp [Value.cells] at hu; subst hu; rfl) (by have := SM.out; omega) (Nat.le_trans SBs.out hJ.2.2.size) fun v' w' h1 h2 h3 => hK v' w' h2 (hJ.step h2 (.inr rfl) SG.out) ⟨h1, h3.imp id fun h => ⟨_, h, hJ.2.2.size⟩⟩
            | 8, _, hi, hXi, hP =>
              obtain rfl := Option.some.inj (oq8.symm.trans hi)
              have d43 : (T.getD 43 undef) = .pointer (some ⟨G, 0, none⟩) := (hdep 0 _ (odt (by kernel_rfl)) oq0).2
              have e43 := zan (by omega) d43
              clear d43
              refine zaj rfl ?_
              refine zao (E := fun w' => W.grownBy w' (none)) (Φ := PhiR G vr hs bl m cl wn.heap.size base 8) fun K hK => ?_
              clear hdep hfree hsz hops fr oq0 oq1 oq2 oq3 oq4 oq5 oq6 oq7 oq8 oq9 oq10
              go_simp
              exact hK (.pointer (some ⟨G, 0, none⟩)) _ (zak _ _) hJ rfl
            | 9, _, hi, hXi, hP =>
              obtain rfl := Option.some.inj (oq9.symm.trans hi)
              have d51 : (T.getD 51 undef) = .pointer (some ⟨G, 0, none⟩) := (hdep 8 _ (odt (by kernel_rfl)) oq8).2
              have e51 := zan (by omega) d51
              clear d51
              refine zaj rfl ?_
              refine zao (E := fun w' => W.grownBy w' (none)) (Φ := PhiR G vr hs bl m cl wn.heap.size base 9) fun K hK => ?_
              clear hdep hfree hsz hops fr oq0 oq1 oq2 oq3 oq4 oq5 oq6 oq7 oq8 oq9 oq10
              go_simp
              exact hK (.pointer (some ⟨G, 0, none⟩)) _ (zak _ _) hJ rfl
            | i + 10, hin, hi, hXi, hP => exact absurd hin (by omega)
          case fin =>
            intro a W X hsz hdf hJ hfree hall
            obtain ⟨⟨l⟩, df⟩ := a
            replace hsz : l.length = 131 := hsz
            obtain ⟨fs, rfl⟩ := open131 hsz
            obtain rfl : df = [] := hdf
            have bs0 : fs 0 = .slice (some ⟨b2, o2, none⟩) n cR := Option.some.inj (hfree 0 (fr 0 (by kernel_rfl)))
            have bs1 : fs 1 = .int .i64 (width : Int) := Option.some.inj (hfree 1 (fr 1 (by kernel_rfl)))
            have bs2 : fs 2 = undef := Option.some.inj (hfree 2 (fr 2 (by kernel_rfl)))
            have bs3 : fs 3 = undef := Option.some.inj (hfree 3 (fr 3 (by kernel_rfl)))
            have bs4 : fs 4 = .pointer none := Option.some.inj (hfree 4 (fr 4 (by kernel_rfl)))
            have bs5 : fs 5 = .pointer (some ⟨(G + 1), 0, none⟩) := Option.some.inj (hfree 5 (fr 5 (by kernel_rfl)))
            have bs6 : fs 6 = undef := Option.some.inj (hfree 6 (fr 6 (by kernel_rfl)))
            have bs7 : fs 7 = .slice Y1 m Y2 := Option.some.inj (hfree 7 (fr 7 (by kernel_rfl)))
            have bs8 : fs 8 = .slice C lc cC := Option.some.inj (hfree 8 (fr 8 (by kernel_rfl)))
            have bs9 : fs 9 = .slice (some ⟨bl, 0, none⟩) m cl := Option.some.inj (hfree 9 (fr 9 (by kernel_rfl)))
            have bs10 : fs 10 = undef := Option.some.inj (hfree 10 (fr 10 (by kernel_rfl)))
            have bs11 : fs 11 = u11 := Option.some.inj (hfree 11 (fr 11 (by kernel_rfl)))
            have bs12 : fs 12 = undef := Option.some.inj (hfree 12 (fr 12 (by kernel_rfl)))
            have bs13 : fs 13 = undef := Option.some.inj (hfree 13 (fr 13 (by kernel_rfl)))
            have bs14 : fs 14 = undef := Option.some.inj (hfree 14 (fr 14 (by kernel_rfl)))
            have bs15 : fs 15 = undef := Option.some.inj (hfree 15 (fr 15 (by kernel_rfl)))
            have bs16 : fs 16 = .slice D0 o1 d0 := Option.some.inj (hfree 16 (fr 16 (by kernel_rfl)))
            have bs17 : fs 17 = .agg #[.slice none 0 0, .slice none 0 0, .slice D0 o1 d0] := Option.some.inj (hfree 17 (fr 17 (by kernel_rfl)))
            have bs18 : fs 18 = .pointer (some ⟨G, 0, none⟩) := Option.some.inj (hfree 18 (fr 18 (by kernel_rfl)))
            have bs19 : fs 19 = .slice (some ⟨b2, o2, none⟩) n cR := Option.some.inj (hfree 19 (fr 19 (by kernel_rfl)))
            have bs20 : fs 20 = .int .i64 (n : Int) := Option.some.inj (hfree 20 (fr 20 (by kernel_rfl)))
            have bs21 : fs 21 = .int .i64 (k : Int) := Option.some.inj (hfree 21 (fr 21 (by kernel_rfl)))
            have bs22 : fs 22 = .bool true := Option.some.inj (hfree 22 (fr 22 (by kernel_rfl)))
            have bs23 : fs 23 = .pointer (some ⟨b2, (o2 + k), none⟩) := Option.some.inj (hfree 23 (fr 23 (by kernel_rfl)))
            have bs24 : fs 24 = .slice Y1 m Y2 := Option.some.inj (hfree 24 (fr 24 (by kernel_rfl)))
            have bs25 : fs 25 = .slice Y1 m Y2 := Option.some.inj (hfree 25 (fr 25 (by kernel_rfl)))
            have bs26 : fs 26 = .slice C lc cC := Option.some.inj (hfree 26 (fr 26 (by kernel_rfl)))
            have bs27 : fs 27 = .slice Y1 m Y2 := Option.some.inj (hfree 27 (fr 27 (by kernel_rfl)))
            have bs28 : fs 28 = .int .i64 (m : Int) := Option.some.inj (hfree 28 (fr 28 (by kernel_rfl)))
            have bs29 : fs 29 = v2 := Option.some.inj (hfree 29 (fr 29 (by kernel_rfl)))
            have bs30 : fs 30 = .slice Y1 m Y2 := Option.some.inj (hfree 30 (fr 30 (by kernel_rfl)))
            have bs31 : fs 31 = .int .i64 (m : Int) := Option.some.inj (hfree 31 (fr 31 (by kernel_rfl)))
            have bs32 : fs 32 = .int .i64 (m : Int) := Option.some.inj (hfree 32 (fr 32 (by kernel_rfl)))
            have bs33 : fs 33 = .bool false := Option.some.inj (hfree 33 (fr 33 (by kernel_rfl)))
            have bs34 : fs 34 = u34 := Option.some.inj (hfree 34 (fr 34 (by kernel_rfl)))
            have bs35 : fs 35 = u35 := Option.some.inj (hfree 35 (fr 35 (by kernel_rfl)))
            have bs36 : fs 36 = u36 := Option.some.inj (hfree 36 (fr 36 (by kernel_rfl)))
            have bs37 : fs 37 = u37 := Option.some.inj (hfree 37 (fr 37 (by kernel_rfl)))
            have bs38 : fs 38 = u38 := Option.some.inj (hfree 38 (fr 38 (by kernel_rfl)))
            have bs39 : fs 39 = u39 := Option.some.inj (hfree 39 (fr 39 (by kernel_rfl)))
            have bs40 : fs 40 = u40 := Option.some.inj (hfree 40 (fr 40 (by kernel_rfl)))
            have bs41 : fs 41 = u41 := Option.some.inj (hfree 41 (fr 41 (by kernel_rfl)))
            have bs42 : fs 42 = u42 := Option.some.inj (hfree 42 (fr 42 (by kernel_rfl)))
            have bs53 : fs 53 = u53 := Option.some.inj (hfree 53 (fr 53 (by kernel_rfl)))
            have bs54 : fs 54 = undef := Option.some.inj (hfree 54 (fr 54 (by kernel_rfl)))
            have bs55 : fs 55 = undef := Option.some.inj (hfree 55 (fr 55 (by kernel_rfl)))
            have bs56 : fs 56 = undef := Option.some.inj (hfree 56 (fr 56 (by kernel_rfl)))
            have bs57 : fs 57 = undef := Option.some.inj (hfree 57 (fr 57 (by kernel_rfl)))
            have bs58 : fs 58 = undef := Option.some.inj (hfree 58 (fr 58 (by kernel_rfl)))
            have bs59 : fs 59 = undef := Option.some.inj (hfree 59 (fr 59 (by kernel_rfl)))
            have bs60 : fs 60 = undef := Option.some.inj (hfree 60 (fr 60 (by kernel_rfl)))
            have bs61 : fs 61 = undef := Option.some.inj (hfree 61 (fr 61 (by kernel_rfl)))
            have bs62 : fs 62 = undef := Option.some.inj (hfree 62 (fr 62 (by kernel_rfl)))
            have bs63 : fs 63 = undef := Option.some.inj (hfree 63 (fr 63 (by kernel_rfl)))
            have bs64 : fs 64 = undef := Option.some.inj (hfree 64 (fr 64 (by kernel_rfl)))
            have bs65 : fs 65 = undef := Option.some.inj (hfree 65 (fr 65 (by kernel_rfl)))
            have bs66 : fs 66 = undef := Option.some.inj (hfree 66 (fr 66 (by kernel_rfl)))
            have bs67 : fs 67 = undef := Option.some.inj (hfree 67 (fr 67 (by kernel_rfl)))
            have bs68 : fs 68 = undef := Option.some.inj (hfree 68 (fr 68 (by kernel_rfl)))
            have bs69 : fs 69 = undef := Option.some.inj (hfree 69 (fr 69 (by kernel_rfl)))
            have bs70 : fs 70 = undef := Option.some.inj (hfree 70 (fr 70 (by kernel_rfl)))
            have bs71 : fs 71 = undef := Option.some.inj (hfree 71 (fr 71 (by kernel_rfl)))
            have bs72 : fs 72 = undef := Option.some.inj (hfree 72 (fr 72 (by kernel_rfl)))
            have bs73 : fs 73 = undef := Option.some.inj (hfree 73 (fr 73 (by kernel_rfl)))
            have bs74 : fs 74 = undef := Option.some.inj (hfree 74 (fr 74 (by kernel_rfl)))
            have bs75 : fs 75 = undef := Option.some.inj (hfree 75 (fr 75 (by kernel_rfl)))
            have bs76 : fs 76 = undef := Option.some.inj (hfree 76 (fr 76 (by kernel_rfl)))
            have bs77 : fs 77 = undef := Option.some.inj (hfree 77 (fr 77 (by kernel_rfl)))
            have bs78 : fs 78 = undef := Option.some.inj (hfree 78 (fr 78 (by kernel_rfl)))
            have bs79 : fs 79 = undef := Option.some.inj (hfree 79 (fr 79 (by kernel_rfl)))
            have bs80 : fs 80 = undef := Option.some.inj (hfree 80 (fr 80 (by kernel_rfl)))
            have bs81 : fs 81 = undef := Option.some.inj (hfree 81 (fr 81 (by kernel_rfl)))
            have bs82 : fs 82 = undef := Option.some.inj (hfree 82 (fr 82 (by kernel_rfl)))
            have bs83 : fs 83 = undef := Option.some.inj (hfree 83 (fr 83 (by kernel_rfl)))
            have bs84 : fs 84 = undef := Option.some.inj (hfree 84 (fr 84 (by kernel_rfl)))
            have bs85 : fs 85 = undef := Option.some.inj (hfree 85 (fr 85 (by kernel_rfl)))
            have bs86 : fs 86 = undef := Option.some.inj (hfree 86 (fr 86 (by kernel_rfl)))
            have bs87 : fs 87 = undef := Option.some.inj (hfree 87 (fr 87 (by kernel_rfl)))
            have bs88 : fs 88 = undef := Option.some.inj (hfree 88 (fr 88 (by kernel_rfl)))
            have bs89 : fs 89 = undef := Option.some.inj (hfree 89 (fr 89 (by kernel_rfl)))
            have bs90 : fs 90 = undef := Option.some.inj (hfree 90 (fr 90 (by kernel_rfl)))
            have bs91 : fs 91 = undef := Option.some.inj (hfree 91 (fr 91 (by kernel_rfl)))
            have bs92 : fs 92 = undef := Option.some.inj (hfree 92 (fr 92 (by kernel_rfl)))
            have bs93 : fs 93 = undef := Option.some.inj (hfree 93 (fr 93 (by kernel_rfl)))
            have bs94 : fs 94 = undef := Option.some.inj (hfree 94 (fr 94 (by kernel_rfl)))
            have bs95 : fs 95 = undef := Option.some.inj (hfree 95 (fr 95 (by kernel_rfl)))
            have bs96 : fs 96 = undef := Option.some.inj (hfree 96 (fr 96 (by kernel_rfl)))
            have bs97 : fs 97 = undef := Option.some.inj (hfree 97 (fr 97 (by kernel_rfl)))
            have bs98 : fs 98 = undef := Option.some.inj (hfree 98 (fr 98 (by kernel_rfl)))
            have bs99 : fs 99 = undef := Option.some.inj (hfree 99 (fr 99 (by kernel_rfl)))
            have bs100 : fs 100 = undef := Option.some.inj (hfree 100 (fr 100 (by kernel_rfl)))
            have bs101 : fs 101 = undef := Option.some.inj (hfree 101 (fr 101 (by kernel_rfl)))
            have bs102 : fs 102 = undef := Option.some.inj (hfree 102 (fr 102 (by kernel_rfl)))
            have bs103 : fs 103 = undef := Option.some.inj (hfree 103 (fr 103 (by kernel_rfl)))
            have bs104 : fs 104 = undef := Option.some.inj (hfree 104 (fr 104 (by kernel_rfl)))
            have bs105 : fs 105 = undef := Option.some.inj (hfree 105 (fr 105 (by kernel_rfl)))
            have bs106 : fs 106 = undef := Option.some.inj (hfree 106 (fr 106 (by kernel_rfl)))
            have bs107 : fs 107 = undef := Option.some.inj (hfree 107 (fr 107 (by kernel_rfl)))
            have bs108 : fs 108 = undef := Option.some.inj (hfree 108 (fr 108 (by kernel_rfl)))
            have bs109 : fs 109 = undef := Option.some.inj (hfree 109 (fr 109 (by kernel_rfl)))
            have bs110 : fs 110 = undef := Option.some.inj (hfree 110 (fr 110 (by kernel_rfl)))
            have bs111 : fs 111 = undef := Option.some.inj (hfree 111 (fr 111 (by kernel_rfl)))
            have bs112 : fs 112 = undef := Option.some.inj (hfree 112 (fr 112 (by kernel_rfl)))
            have bs113 : fs 113 = undef := Option.some.inj (hfree 113 (fr 113 (by kernel_rfl)))
            have bs114 : fs 114 = undef := Option.some.inj (hfree 114 (fr 114 (by kernel_rfl)))
            have bs115 : fs 115 = undef := Option.some.inj (hfree 115 (fr 115 (by kernel_rfl)))
            have bs116 : fs 116 = undef := Option.some.inj (hfree 116 (fr 116 (by kernel_rfl)))
            have bs117 : fs 117 = undef := Option.some.inj (hfree 117 (fr 117 (by kernel_rfl)))
            have bs118 : fs 118 = undef := Option.some.inj (hfree 118 (fr 118 (by kernel_rfl)))
            have bs119 : fs 119 = undef := Option.some.inj (hfree 119 (fr 119 (by kernel_rfl)))
            have bs120 : fs 120 = undef := Option.some.inj (hfree 120 (fr 120 (by kernel_rfl)))
            have bs121 : fs 121 = undef := Option.some.inj (hfree 121 (fr 121 (by kernel_rfl)))
            have bs122 : fs 122 = undef := Option.some.inj (hfree 122 (fr 122 (by kernel_rfl)))
            have bs123 : fs 123 = undef := Option.some.inj (hfree 123 (fr 123 (by kernel_rfl)))
            have bs124 : fs 124 = undef := Option.some.inj (hfree 124 (fr 124 (by kernel_rfl)))
            have bs125 : fs 125 = undef := Option.some.inj (hfree 125 (fr 125 (by kernel_rfl)))
            have bs126 : fs 126 = undef := Option.some.inj (hfree 126 (fr 126 (by kernel_rfl)))
            have bs127 : fs 127 = undef := Option.some.inj (hfree 127 (fr 127 (by kernel_rfl)))
            have bs128 : fs 128 = undef := Option.some.inj (hfree 128 (fr 128 (by kernel_rfl)))
            have bs129 : fs 129 = undef := Option.some.inj (hfree 129 (fr 129 (by kernel_rfl)))
            have bs130 : fs 130 = undef := Option.some.inj (hfree 130 (fr 130 (by kernel_rfl)))
            have x50 : X 7 = some (fs 50) := (hall 7 _ (by omega) oq7).1
            have q50 : (OwnS 1 29 IsVal W base (fun _ => False) (fs 50) (hs ++ [.slice (some ⟨bl, 0, none⟩) m cl]) ∧ ((fs 50).ownBlock = vr.ownBlock ∨ ∃ b, (fs 50).ownBlock = some b ∧ wn.heap.size ≤ b)) := (hall 7 _ (by omega) oq7).2
            have x52 : X 9 = some (fs 52) := (hall 9 _ (by omega) oq9).1
            have q52 : (fs 52) = .pointer (some ⟨G, 0, none⟩) := (hall 9 _ (by omega) oq9).2
            clear x52
            clear hall hfree hsz
            rw [hops]
            clear hops fr oq0 oq1 oq2 oq3 oq4 oq5 oq6 oq7 oq8 oq9 oq10
            rw [bs0, bs1, bs2, bs3, bs4, bs5, bs6, bs7, bs8, bs9, bs10, bs11, bs12, bs13, bs14, bs15, bs16, bs17, bs18, bs19, bs20, bs21, bs22, bs23, bs24, bs25, bs26, bs27, bs28, bs29, bs30, bs31, bs32, bs33, bs34, bs35, bs36, bs37, bs38, bs39, bs40, bs41, bs42, bs53, bs54, bs55, bs56, bs57, bs58, bs59, bs60, bs61, bs62, bs63, bs64, bs65, bs66, bs67, bs68, bs69, bs70, bs71, bs72, bs73, bs74, bs75, bs76, bs77, bs78, bs79, bs80, bs81, bs82, bs83, bs84, bs85, bs86, bs87, bs88, bs89, bs90, bs91, bs92, bs93, bs94, bs95, bs96, bs97, bs98, bs99, bs100, bs101, bs102, bs103, bs104, bs105, bs106, bs107, bs108, bs109, bs110, bs111, bs112, bs113, bs114, bs115, bs116, bs117, bs118, bs119, bs120, bs121, bs122, bs123, bs124, bs125, bs126, bs127, bs128, bs129, bs130, q52]
            clear bs0 bs1 bs2 bs3 bs4 bs5 bs6 bs7 bs8 bs9 bs10 bs11 bs12 bs13 bs14 bs15 bs16 bs17 bs18 bs19 bs20 bs21 bs22 bs23 bs24 bs25 bs26 bs27 bs28 bs29 bs30 bs31 bs32 bs33 bs34 bs35 bs36 bs37 bs38 bs39 bs40 bs41 bs42 bs53 bs54 bs55 bs56 bs57 bs58 bs59 bs60 bs61 bs62 bs63 bs64 bs65 bs66 bs67 bs68 bs69 bs70 bs71 bs72 bs73 bs74 bs75 bs76 bs77 bs78 bs79 bs80 bs81 bs82 bs83 bs84 bs85 bs86 bs87 bs88 bs89 bs90 bs91 bs92 bs93 bs94 bs95 bs96 bs97 bs98 bs99 bs100 bs101 bs102 bs103 bs104 bs105 bs106 bs107 bs108 bs109 bs110 bs111 bs112 bs113 bs114 bs115 bs116 bs117 bs118 bs119 bs120 bs121 bs122 bs123 bs124 bs125 bs126 bs127 bs128 bs129 bs130 q52
            obtain ⟨t50, ht50⟩ : ∃ t, t = fs 50 := ⟨_, rfl⟩
            rw [← ht50] at q50 x50 ⊢
            clear ht50
            obtain ⟨c0, c1, c2⟩ := zad hJ.2.1
            obtain ⟨f0, f1, f2⟩ := zaq hJ.2.1
            obtain ⟨A7, k7, rfl⟩ := q50.1.slice
            have HJ := Lib.hid hJ
            have Q50 := Lib.hid q50
            clear hJ q50 x50
            have hlt := Hlt.out
            show wpList _ _ _ [_] _ _
            go_wp2_with fail
            clear c0 c1 c2 f0 f1 f2
            go_roundw
            case rel =>
              obtain ⟨W2, hW2⟩ : ∃ W2, W2 = W.setCell ⟨G, 0, none⟩ (.slice A7 (hs.length + 1) k7) := ⟨_, rfl⟩
              have q := Q50.out
              rw [show (hs ++ [Value.slice (some ⟨bl, 0, none⟩) m cl]).length = hs.length + 1 by simp] at q
              have g2 : W.grownBy W2 (some G) := by rw [hW2]; exact zcl _ _ _ _
              have hRG : Row W2 G 110 [.slice A7 (hs.length + 1) k7, .slice none 0 0, .slice D0 o1 d0] := by rw [hW2]; exact HJ.out.2.1.set_ 0 _
              have hRV : Row W2 (G + 1) 105 [.pointer (some ⟨G, 0, none⟩)] := HJ.out.1.grownN g2 (fun b e => by cases e; omega)
              have hz := Hbs.out
              have hbl := Hbl.out
              have hbase := Hbase.out
              have hszW := HJ.out.2.2.size
              have hsz2 := g2.size
              have hn1' := B1n.out.size
              have hn2 := BL1.out.size
              have hbd := Hbld.out
              have o6 := OwnS.own_lt q.1
              have blk : ∀ b, b < wn.heap.size → b ≠ G → vr.ownBlock ≠ some b → W2.heap[b]? = wn.heap[b]? := fun b h1 h2 h3 => by
                rw [g2.block b (Nat.lt_of_lt_of_le h1 HJ.out.2.2.size) (fun e => h2 (by cases e; rfl))]
                exact HJ.out.2.2.block b h1 (fun e => h3 e.symm) (by simp) (by simp)
              have blo : ∀ b, b < wo.heap.size → b ≠ G → vr.ownBlock ≠ some b → W2.heap[b]? = wo.heap[b]? := fun b h1 h2 h3 => (blk b (Nat.lt_of_lt_of_le h1 hn1') h2 h3).trans (B1n.out.block b h1)
              have hWn := zaa HW.out B1n.out
              have hB2 : Below w.heap.size w W2 := by
                refine ⟨(g2.os.trans HJ.out.2.2.os).trans hWn.os, (g2.tape.trans HJ.out.2.2.tape).trans hWn.tape, (g2.output.trans HJ.out.2.2.output).trans hWn.output, Nat.le_trans hWn.size (Nat.le_trans hszW hsz2), fun b hb => ?_⟩
                rw [blk b (Nat.lt_of_lt_of_le hb hWn.size) (by omega) (fun e => by have := (OwnS.own_lt hbd.1.own b e).1; omega)]
                exact hWn.block b hb
              have hSS : ∀ b, S b → b < wo.heap.size ∧ b ≠ G ∧ b ≠ G + 1 ∧ vr.ownBlock ≠ some b := hbd.1.sS
              have hSS2 : ∀ b, S2 b → wo.heap.size ≤ b ∧ b < wn.heap.size ∧ b ≠ G ∧ vr.ownBlock ≠ some b := fun b hb => by
                have h1 := hS2.out b hb
                have h2 := hSx2.out b hb
                exact ⟨by omega, h2, by omega, fun e => by have := Svr.out b e; omega⟩
              have hvn : ∀ b, vr.ownBlock ≠ some b → b < wn.heap.size → (Value.slice A7 (hs.length + 1) k7).ownBlock ≠ some b := fun b h1 h2 => own_neR q.2 h2 h1
              rw [← hW2]
              refine ⟨k + 1, _, fun b => S b ∨ S2 b, fun i => if i = k then bl else rb i, fun i => if i = k then cl else cp i, hlt, by go_num, hB2, hRG, hRV, ⟨?_, ?_, ?_, ?_, ?_⟩, ?_, by omega⟩
              · rw [heads_snoc, if_pos rfl, if_pos rfl, heads_congr (rb' := rb) (cp' := cp) (fun i hi => ⟨if_neg (by omega), if_neg (by omega)⟩), ← Hhs.out, ← hbase]
                exact q.1.grown IsVal.stb g2 fun b e => ⟨fun e' => by have := (o6 b e').1; cases e; omega, fun h => h⟩
              · intro i hi
                by_cases hik : i = k
                · subst hik
                  simp only [if_pos]
                  exact HLW.out.keep (blk bl hbl.2.1 (by omega) (fun e => by have := Svr.out bl e; omega)) fun x hx => ⟨.inr hx, blk x (hSS2 x hx).2.1 (hSS2 x hx).2.2.1 (hSS2 x hx).2.2.2⟩
                · simp only [if_neg hik]
                  have hs3 := hbd.1.sep i (by omega)
                  exact (hbd.1.lines i (by omega)).keep (blo _ hs3.2.1 (by omega) hs3.2.2.1) fun x hx => ⟨.inl hx, blo x (hSS x hx).1 (hSS x hx).2.1 (hSS x hx).2.2.2⟩
              · intro i i' hi hi' he
                by_cases h1 : i = k <;> by_cases h2 : i' = k
                · omega
                · simp only [if_pos h1, if_neg h2] at he
                  have := (hbd.1.sep i' (by omega)).2.1
                  omega
                · simp only [if_neg h1, if_pos h2] at he
                  have := (hbd.1.sep i (by omega)).2.1
                  omega
                · simp only [if_neg h1, if_neg h2] at he
                  exact hbd.1.inj i i' (by omega) (by omega) he
              · intro i hi
                by_cases hik : i = k
                · simp only [if_pos hik]
                  refine ⟨by omega, by omega, hvn bl (fun e => by have := Svr.out bl e; omega) hbl.2.1, fun h => ?_⟩
                  rcases h with h | h
                  · have := (hSS bl h).1; omega
                  · exact hbl.2.2 h
                · simp only [if_neg hik]
                  have hs3 := hbd.1.sep i (by omega)
                  refine ⟨hs3.1, by omega, hvn _ hs3.2.2.1 (by omega), fun h => ?_⟩
                  rcases h with h | h
                  · exact hs3.2.2.2 h
                  · have := (hSS2 _ h).1; omega
              · intro b hb
                rcases hb with h | h
                · have h3 := hSS b h
                  exact ⟨by omega, h3.2.1, h3.2.2.1, hvn b h3.2.2.2 (by omega)⟩
                · have h3 := hSS2 b h
                  exact ⟨by omega, h3.2.2.1, by omega, hvn b h3.2.2.2 h3.2.1⟩
              · exact IsK.stb.to hbd.2.1 fun b hb => ⟨.inl hb, fun o => World.cell?_of_block (blo b (hSS b hb).1 (hSS b hb).2.1 (hSS b hb).2.2.2)⟩
            case measure => simp [intOf]; omega
    · obtain rfl : n = k := by have := Hk.out; omega
      have hlt : ¬ n < n := by omega
      have hG0 := RGo.out.cell 0
      have hGV0 := RVo.out.cell 0
      simp at hG0 hGV0
      have hmm := @run_makeMap Tryd.prog
      obtain ⟨wm, hwm⟩ : ∃ x, wo.alloc (Obj.map #[] 0) = x := ⟨_, rfl⟩
      have hbm : Below wo.heap.size wo wm := by rw [← hwm]; exact zbt _ _
      have hmo : wm.heap[wo.heap.size]? = some (.map #[] 0) := by rw [← hwm]; exact World.alloc_heap_new _ _
      have cV := zac hbm hGV0
      obtain ⟨mb, hmb⟩ : ∃ x, x = wo.heap.size := ⟨_, rfl⟩
      rw [← hmb] at hmo
      obtain ⟨w1, hw1⟩ : ∃ x, x = wm.putObj mb (.map #[⟨.int .i64 1, .func (.func 103) #[.pointer (some ⟨G, 0, none⟩)] #[], 0⟩] 1) := ⟨_, rfl⟩
      obtain ⟨w2, hw2⟩ : ∃ x, x = w1.putObj mb (.map #[⟨.int .i64 1, .func (.func 103) #[.pointer (some ⟨G, 0, none⟩)] #[], 0⟩, ⟨.int .i64 2, .func (.func 104) #[.pointer (some ⟨G, 0, none⟩)] #[], 1⟩] 2) := ⟨_, rfl⟩
      obtain ⟨w3, hw3⟩ : ∃ x, x = w2.putObj mb (.map #[⟨.int .i64 1, .func (.func 103) #[.pointer (some ⟨G, 0, none⟩)] #[], 0⟩, ⟨.int .i64 2, .func (.func 104) #[.pointer (some ⟨G, 0, none⟩)] #[], 1⟩, ⟨.int .i64 3, .func (.func 105) #[.pointer (some ⟨G, 0, none⟩)] #[], 2⟩] 3) := ⟨_, rfl⟩
      have hlm : mb < wm.heap.size := (Array.getElem?_eq_some_iff.1 hmo).1
      have m1 : w1.heap[mb]? = some (.map #[⟨.int .i64 1, .func (.func 103) #[.pointer (some ⟨G, 0, none⟩)] #[], 0⟩] 1) := by rw [hw1]; exact World.putObj_heap_same hlm
      have hl1 : mb < w1.heap.size := (Array.getElem?_eq_some_iff.1 m1).1
      have m2 : w2.heap[mb]? = some (.map #[⟨.int .i64 1, .func (.func 103) #[.pointer (some ⟨G, 0, none⟩)] #[], 0⟩, ⟨.int .i64 2, .func (.func 104) #[.pointer (some ⟨G, 0, none⟩)] #[], 1⟩] 2) := by rw [hw2]; exact World.putObj_heap_same hl1
      have hl2 : mb < w2.heap.size := (Array.getElem?_eq_some_iff.1 m2).1
      have m3 : w3.heap[mb]? = some (.map #[⟨.int .i64 1, .func (.func 103) #[.pointer (some ⟨G, 0, none⟩)] #[], 0⟩, ⟨.int .i64 2, .func (.func 104) #[.pointer (some ⟨G, 0, none⟩)] #[], 1⟩, ⟨.int .i64 3, .func (.func 105) #[.pointer (some ⟨G, 0, none⟩)] #[], 2⟩] 3) := by rw [hw3]; exact World.putObj_heap_same hl2
      have r1 := zed (P := Tryd.prog) 136 _ _ mb 0 #[] 1 (.func (.func 103) #[.pointer (some ⟨G, 0, none⟩)] #[]) Tryd.underlying136 Tryd.underlying3 hmo rfl
      have r2 := zed (P := Tryd.prog) 136 _ _ mb 1 _ 2 (.func (.func 104) #[.pointer (some ⟨G, 0, none⟩)] #[]) Tryd.underlying136 Tryd.underlying3 m1 (by rfl)
      have r3 := zed (P := Tryd.prog) 136 _ _ mb 2 _ 3 (.func (.func 105) #[.pointer (some ⟨G, 0, none⟩)] #[]) Tryd.underlying136 Tryd.underlying3 m2 (by rfl)
      have hneV : G + 1 ≠ mb := by rw [hmb]; have := RVo.out.lt; omega
      have cV1 : w1.cell? ⟨G + 1, 0, none⟩ = some (.pointer (some ⟨G, 0, none⟩)) := by rw [hw1]; exact (World.cell?_of_block (World.putObj_heap_other hneV)).trans cV
      have cV2 : w2.cell? ⟨G + 1, 0, none⟩ = some (.pointer (some ⟨G, 0, none⟩)) := by rw [hw2]; exact (World.cell?_of_block (World.putObj_heap_other hneV)).trans cV1
      replace r1 : _ = Result.ok () w1 := r1.trans (by rw [hw1]; rfl)
      replace r2 : _ = Result.ok () w2 := r2.trans (by rw [hw2]; rfl)
      replace r3 : _ = Result.ok () w3 := r3.trans (by rw [hw3]; rfl)
      have R3 := Lib.hid m3
      have B3 : Hid (Below wo.heap.size wo w3) := by
        rw [Hid, hw3, hw2, hw1]
        have hg : ∀ (X : World) o, X.grownBy (X.putObj mb o) (some mb) := fun X o => grownBy_putObj' X mb o
        exact ((hbm.grown (hg _ _) hbm.size (fun k e => by cases e; omega)).grown (hg _ _) (by show _ ≤ (World.putObj _ _ _).heap.size; simp [World.putObj]; exact hbm.size) (fun k e => by cases e; omega)).grown (hg _ _) (by show _ ≤ (World.putObj _ _ _).heap.size; simp [World.putObj]; exact hbm.size) (fun k e => by cases e; omega)
      obtain ⟨w4, hw4, hb4, rM, Hz4⟩ := zcf w3 #[.map (some mb)] 136
      have B4 := Lib.hid (zaa B3.out hb4)
      have RM := Lib.hid rM
      have cV4 := zac hb4 ((cV2 |> fun h => (show w3.cell? ⟨G + 1, 0, none⟩ = some (.pointer (some ⟨G, 0, none⟩)) by rw [hw3]; exact (World.cell?_of_block (World.putObj_heap_other hneV)).trans h)))
      have R4 : Hid (w4.heap[mb]? = w3.heap[mb]?) := hb4.block mb (Array.getElem?_eq_some_iff.1 m3).1
      clear hw1 hw2 hw3 m1 m2 m3 hl1 hl2 hlm hmo hb4 rM hbm hneV hG0 hGV0
      subst hmb
      go_wp2_with fail
      refine (places_n w4 G width).mono ?_
      rintro e w5 ⟨rfl, hb5, bx0, bx1, hz5⟩
      have B5 := Lib.hid (zaa B4.out hb5)
      have Hb5 := Lib.hid hb5
      have BX := Lib.hid (And.intro bx0 bx1)
      clear hb5 bx0 bx1
      go_wp2_with fail
      have key : ∃ C : RC, C.n0 = w.heap.size ∧ C.G = G ∧ C.n = n ∧ C.m = m ∧ C.width = width ∧ C.mb = wo.heap.size ∧ C.MV = w3.heap.size ∧ C.B = w4.heap.size ∧ C.b1 = w5.heap.size ∧ C.E = (.map #[⟨.int .i64 1, .func (.func 103) #[.pointer (some ⟨G, 0, none⟩)] #[], 0⟩, ⟨.int .i64 2, .func (.func 104) #[.pointer (some ⟨G, 0, none⟩)] #[], 1⟩, ⟨.int .i64 3, .func (.func 105) #[.pointer (some ⟨G, 0, none⟩)] #[], 2⟩] 3) ∧ C.Ok ∧ Below w.heap.size w w5 ∧ ∃ S rb cp, InvR C w5 (runK n m (zbj M) 0) S rb cp none D0 0 d0 := by
        obtain ⟨hbld, hnum, hszo2⟩ := Hbld.out
        obtain ⟨r0, c0, evr, h1, h2, h3, hM⟩ := matW_of hn1 hbld.own hbld.lines hbld.inj (fun i hi => ⟨(hbld.sep i hi).2.2.1, (hbld.sep i hi).2.2.2, (hbld.sep i hi).2.1⟩) (fun b hb => ⟨(hbld.sS b hb).1, (hbld.sS b hb).2.2.2⟩)
        have hM5 := hM.next B5.out (fun b h => h) (fun b h => .inl h)
        have hbs := Hbs.out
        have hsz3 := B3.out.size
        have hz4 := Hz4.out
        have hsz5 := B5.out.size
        have hlt0 := hM.s0.2
        have hmo : w5.heap[wo.heap.size]? = some (.map #[⟨.int .i64 1, .func (.func 103) #[.pointer (some ⟨G, 0, none⟩)] #[], 0⟩, ⟨.int .i64 2, .func (.func 104) #[.pointer (some ⟨G, 0, none⟩)] #[], 1⟩, ⟨.int .i64 3, .func (.func 105) #[.pointer (some ⟨G, 0, none⟩)] #[], 2⟩] 3) := (Hb5.out.block _ (by omega)).trans (R4.out.trans R3.out)
        refine ⟨{ n0 := w.heap.size, r0 := r0, c0 := c0, n := n, m := m, width := width, G := G, mb := wo.heap.size, MV := w3.heap.size, B := w4.heap.size, b1 := w5.heap.size, E := (.map #[⟨.int .i64 1, .func (.func 103) #[.pointer (some ⟨G, 0, none⟩)] #[], 0⟩, ⟨.int .i64 2, .func (.func 104) #[.pointer (some ⟨G, 0, none⟩)] #[], 1⟩, ⟨.int .i64 3, .func (.func 105) #[.pointer (some ⟨G, 0, none⟩)] #[], 2⟩] 3), eE := rfl }, rfl, rfl, rfl, rfl, rfl, rfl, rfl, rfl, rfl, rfl, ?ok, zaa HW.out B5.out, S, rb, cp, ?inv⟩
        case ok => exact ⟨hn1, hn9, hm1, hm9, (by refine ⟨?_, ?_, ?_, ?_⟩ <;> (try dsimp only) <;> omega), by (try dsimp only); omega, (by refine ⟨?_, ?_, ?_, ?_⟩ <;> (try dsimp only) <;> omega), (by refine ⟨?_, ?_, ?_, ?_⟩ <;> (try dsimp only) <;> omega), h3⟩
        case inv =>
          refine ⟨hM5, ?_, ?_, OwnS.nil (fun b h => h.elim), ⟨RVo.out.next B5.out, RM.out.next Hb5.out, hmo, BX.out.1, BX.out.2⟩, ⟨⟨?_, ?_, ?_, ?_, ?_, ?_⟩, ?_, ?_⟩, fun i hi => ?_, fun b hb => ?_, Nat.le_refl _⟩
          · have := RGo.out.next B5.out
            rw [evr, Ho1.out] at this
            exact this
          · have := IsK.stb.to hnum (T := S) fun b hb => ⟨hb, fun o => B5.out.cell (p := ⟨b, o, none⟩) (hM.sS b hb)⟩
            rw [Ho1.out] at this
            exact this
          all_goals try dsimp only
          · omega
          · omega
          · omega
          · omega
          · omega
          · omega
          · omega
          · omega
          · have h4 := hbld.sep i hi
            refine ⟨⟨?_, ?_, ?_, ?_, ?_, ?_⟩, ?_, ?_⟩ <;> (try dsimp only) <;> omega
          · have h4 := hbld.sS b hb
            refine ⟨⟨?_, ?_, ?_, ?_, ?_, ?_⟩, fun e => by cases e⟩ <;> (try dsimp only) <;> omega
      obtain ⟨C, e0, eG, en, em, ewd, emb, eMV, eB, eb1, eE, ok, hbw5, S, rb, cp, inv0⟩ := key
      have Inv0 := Lib.hid inv0
      have Hbw5 := Lib.hid hbw5
      have Ok := Lib.hid ok
      have E0 := Lib.hid e0
      have Eb1 := Lib.hid eb1
      have EE := Lib.hid eE
      have ewm : width ≤ m := Hwm.out
      clear HM hxl B0 V0 Ho1 BB RV RG HG Bw Hbs hS0 HW RGo RVo Hbld Hk hge hlt hmm hwm cV cV1 cV2 B3 Hz4 B4 cV4 r1 r2 r3 R3 hw4 RM R4 B5 Hb5 BX hz5 inv0 hbw5 e0 eb1 eE hn1 hn9 hm1 hm9 hszo Hs Hrow Hn
      obtain ⟨A0, hA0⟩ : ∃ A0, A0 = zbj M := ⟨_, rfl⟩
      rw [← hA0] at Hbnd Inv0
      have HA0 := Lib.hid hA0
      have En := Lib.hid en
      have Em := Lib.hid em
      have Ewd := Lib.hid ewd
      clear hA0
      rw [← emb, ← eMV, ← eB]
      rw [← eG] at EE ⊢
      rw [← ewd] at Hwm Hbnd ewm ⊢
      rw [← en] at Hbnd Inv0 ⊢
      rw [← em] at Hbnd Inv0 Hwm ewm
      clear emb eMV eB eG ewd em en
      have on9 := Ok.out.n9
      have om9 := Ok.out.m9
      refine (wpIn_wide (n := 3)).1 ?_
      refine wpIn_rangeFunc_D (σ := RS) rfl (by omega) (gf := 129) (lb := #[.pointer (some ⟨C.B + 1, 0, none⟩), .pointer (some ⟨C.B, 0, none⟩)]) rfl trivial (enters_of Tryd.func129 (by kernel_rfl) rfl)
        (places_seq (fun (s : RS) => (s.A, s.piv.length)) 2 (by omega) (g := C.G) (r0 := C.r0) (c0 := C.c0) (n := C.n) (m := C.m) (width := C.width) (B := C.B) (w := w5) (by omega) (by omega) ewm) (Below.refl _ _) (fun k s vs hv => by obtain ⟨r, _, rfl⟩ := hv; rfl)
        (fun p W => p.2 = runK C.n C.m A0 p.1 ∧ Below w.heap.size w W ∧ ∃ S rb cp Pv D cv cd, InvR C W p.2 S rb cp Pv D cv cd) ?hI ?hRd ?hskip ⟨_, rfl, Hbw5.out, S, rb, cp, none, D0, 0, d0, Inv0.out⟩ (fun vs => { tmps := #[.slice R C.n cR, .int .i64 (C.width : Int), undef, undef, .pointer none, .pointer (some ⟨(C.G + 1), 0, none⟩), undef, u7, u8, u9, undef, u11, .pointer (some ⟨C.MV, 0, none⟩), vs.getD 0 undef, vs.getD 1 undef, undef, .slice D0 o1 d0, .agg #[.slice none 0 0, .slice none 0 0, .slice D0 o1 d0], .pointer (some ⟨C.G, 0, none⟩), .slice R C.n cR, .int .i64 (C.n : Int), .int .i64 (C.n : Int), .bool false, u23, u24, u25, u26, u27, u28, u29, u30, u31, u32, u33, u34, u35, u36, u37, u38, u39, u40, u41, u42, u43, u44, u45, u46, u47, u48, u49, u50, u51, u52, u53, .map (some C.mb), .pointer (some ⟨C.G, 0, none⟩), .func (.func 103) #[.pointer (some ⟨C.G, 0, none⟩)] #[], .pointer (some ⟨C.G, 0, none⟩), .func (.func 104) #[.pointer (some ⟨C.G, 0, none⟩)] #[], .pointer (some ⟨C.G, 0, none⟩), .func (.func 105) #[.pointer (some ⟨C.G, 0, none⟩)] #[], .map (some C.mb), .pointer (some ⟨C.G, 0, none⟩), .int .i64 (C.width : Int), .func (.func 129) #[] #[.pointer (some ⟨(C.B + 1), 0, none⟩), .pointer (some ⟨C.B, 0, none⟩)], vs.getD 0 undef, vs.getD 1 undef, undef, undef, undef, undef, undef, undef, undef, undef, undef, undef, undef, undef, undef, undef, undef, undef, undef, undef, undef, undef, undef, undef, undef, undef, undef, undef, undef, undef, undef, undef, undef, undef, undef, undef, undef, undef, undef, undef, undef, undef, undef, undef, undef, undef, undef, undef, undef, undef, undef, undef, undef, undef, undef, undef, undef, undef, undef, undef, undef, undef, undef, undef, undef, undef], defers := [] }) ?assign ?body ?done
      case hI =>
        rintro p X Y row ⟨h1, h2, S, rb, cp, Pv, D, cv, cd, h3⟩ hg hr
        exact ⟨h1, h2.grown hg h2.size (fun x e => by have := (hr x e).1; have := Hbw5.out.size; omega), S, rb, cp, Pv, D, cv, cd, h3.others Ok.out hg fun x e => by rw [Eb1.out]; exact hr x e⟩
      case hRd =>
        rintro k s W ⟨h1, h2, S, rb, cp, Pv, D, cv, cd, h3⟩
        exact ⟨S, rb, cp, Pv, cv, _, h3.mat, h3.row, by show s.piv.length ≤ C.n; have h1 : s = runK C.n C.m A0 k := h1; rw [h1]; exact runK_len k, h3.fx.b0, h3.fx.b1⟩
      case hskip =>
        rintro k s W ⟨h1, h2, h3⟩ hk hv
        refine ⟨?_, h2, h3⟩
        show s = runK C.n C.m A0 (k + 1)
        have h1 : s = runK C.n C.m A0 k := h1
        rw [runK_none fun r hr => hv _ ⟨r, by rw [h1]; exact hr, rfl⟩]
        exact h1
      case assign =>
        rintro l k s vs W K ⟨r, hr, rfl⟩ hK
        gi_wp2
        exact hK
      case body =>
        rintro lo k s vs Wr hlW hrec ⟨hs, hbW, S, rb, cp, Pv, D, cv, cd, inv⟩ hkN ⟨r, hr, rfl⟩
        clear Inv0 hlW hrec Hbw5
        gi_wp2
        have hmo : Tryd.prog.follows .mixedOrders = true := by kernel_rfl
        have hrn : r < C.n := hr.2.1
        have hnr : s.piv.length ≤ r := hr.1
        have Hr := Lib.hid hr
        have Hs := Lib.hid hs
        have hkm : k < C.m := by have hkN : k < C.width := hkN; omega
        have HBS : Hid (BndS C.n C.m s) := by
          have h := Hbnd.out k (Nat.le_of_lt hkN)
          rw [Hid, show s = runK C.n C.m A0 k from hs]
          exact h
        have HBN : Hid (BndS C.n C.m (stepG C.n C.m k s r)) := by
          have h := Hbnd.out (k + 1) hkN
          have hs' : s = runK C.n C.m A0 k := hs
          rw [hs'] at hr
          rw [runK_some hr] at h
          rw [Hid, hs']
          exact h
        obtain ⟨wd, hwd⟩ : ∃ x, x = Wr.drew := ⟨_, rfl⟩
        have inv1 : InvR C wd s S rb cp Pv D cv cd := inv.below Ok.out (by rw [hwd]; exact zab _)
        have Inv1 := Lib.hid inv1
        have Hk0 : Hid (KeepsFrom C.b1 Wr wd) := by rw [Hid, hwd]; exact (KeepsOthers.drew Wr).from _
        have Hb0 : Hid (Below w.heap.size w wd) := by rw [Hid, hwd]; exact zaa hbW (zab _)
        obtain ⟨np, hnp⟩ : ∃ np, np = s.piv.length := ⟨_, rfl⟩
        have Hnp := Lib.hid hnp
        rw [← hnp] at hnr
        have a0 := inv1.fx.mv.cell 0
        have a1 := inv1.row.cell 1
        have a2 := inv1.fx.v.cell 0
        simp at a0 a1 a2
        rw [← hnp] at a1
        have hl := zfn (P := Tryd.prog) 136 _ _ C.mb 3 _ 1 0 _ Tryd.underlying136 Tryd.underlying3 (inv1.fx.mo.trans (by rw [EE.out])) rfl
        have Hwd := Lib.hid hwd
        clear inv inv1 hr hbW hs hnp hwd
        refine regionIn_abs fun ops hops => ?_
        have oq0 := zax (j := 0) hops rfl
        have oq1 := zax (j := 1) hops rfl
        have oq2 := zax (j := 2) hops rfl
        have oq3 := zax (j := 3) hops rfl
        have oq4 := zax (j := 4) hops rfl
        have oq5 := zax (j := 5) hops rfl
        have oq6 := zax (j := 6) hops rfl
        have oq7 := zax (j := 7) hops rfl
        have oq8 := zax (j := 8) hops rfl
        have oq9 := zax (j := 9) hops rfl
        have fr := fun t h => zey (n := 9) hops t h
        refine zfo 9 (PhiS C.G C.mb Pv np cv r k) (fun _ _ => True) (fun x => x = wd) (fun _ w w' => w.grownBy w' none) hmo (noDefer_at (by rw [hops]; kernel_rfl)) Hwd.out.symm (fun _ => trivial) (fun _ _ _ _ _ _ _ _ => trivial) (fun i _ v wa wb X u _ _ h _ _ => phiS_st _ _ _ _ _ _ _ i v wa wb X _ h) (by rw [hops]; kernel_rfl) (by rw [hops]; kernel_rfl) ?step ?fin
        case step =>
          intro i o hin hi a W X hsz hdf hJ hP hXi hfree hdep
          obtain ⟨T, df⟩ := a
          replace hsz : T.size = 131 := hsz
          obtain rfl : df = [] := hdf
          match i, hin, hi, hXi, hP with
          | 0, _, hi, hXi, hP =>
            obtain rfl := Option.some.inj (oq0.symm.trans hi)
            have e12 : T[12]? = some (.pointer (some ⟨C.MV, 0, none⟩)) := hfree 12 (fr 12 (by kernel_rfl))
            subst hJ
            refine zaj rfl ?_
            refine zao (E := fun w' => W.grownBy w' (none)) (Φ := PhiS C.G C.mb Pv np cv r k 0) fun K hK => ?_
            clear hdep hfree hsz hops fr oq0 oq1 oq2 oq3 oq4 oq5 oq6 oq7 oq8 oq9
            go_simp
            exact hK (.map (some C.mb)) _ (zak _ _) rfl rfl
          | 1, _, hi, hXi, hP =>
            obtain rfl := Option.some.inj (oq1.symm.trans hi)
            have d67 : (T.getD 67 undef) = .map (some C.mb) := (hdep 0 _ (odt (by kernel_rfl)) oq0).2
            have e67 := zan (by omega) d67
            clear d67
            subst hJ
            refine zaj rfl ?_
            refine zao (E := fun w' => W.grownBy w' (none)) (Φ := PhiS C.G C.mb Pv np cv r k 1) fun K hK => ?_
            clear hdep hfree hsz hops fr oq0 oq1 oq2 oq3 oq4 oq5 oq6 oq7 oq8 oq9
            go_simp
            exact hK (.func (.func 103) #[.pointer (some ⟨C.G, 0, none⟩)] #[]) _ (zak _ _) rfl rfl
          | 2, _, hi, hXi, hP =>
            obtain rfl := Option.some.inj (oq2.symm.trans hi)
            have e5 : T[5]? = some (.pointer (some ⟨(C.G + 1), 0, none⟩)) := hfree 5 (fr 5 (by kernel_rfl))
            subst hJ
            refine zaj rfl ?_
            refine zao (E := fun w' => W.grownBy w' (none)) (Φ := PhiS C.G C.mb Pv np cv r k 2) fun K hK => ?_
            clear hdep hfree hsz hops fr oq0 oq1 oq2 oq3 oq4 oq5 oq6 oq7 oq8 oq9
            go_simp
            exact hK (.pointer (some ⟨C.G, 0, none⟩)) _ (zak _ _) rfl rfl
          | 3, _, hi, hXi, hP =>
            obtain rfl := Option.some.inj (oq3.symm.trans hi)
            have d69 : (T.getD 69 undef) = .pointer (some ⟨C.G, 0, none⟩) := (hdep 2 _ (odt (by kernel_rfl)) oq2).2
            have e69 := zan (by omega) d69
            clear d69
            subst hJ
            refine zaj rfl ?_
            refine zao (E := fun w' => W.grownBy w' (none)) (Φ := PhiS C.G C.mb Pv np cv r k 3) fun K hK => ?_
            clear hdep hfree hsz hops fr oq0 oq1 oq2 oq3 oq4 oq5 oq6 oq7 oq8 oq9
            go_simp
            exact hK (.pointer (some ⟨C.G, 0, none⟩)) _ (zak _ _) rfl rfl
          | 4, _, hi, hXi, hP =>
            obtain rfl := Option.some.inj (oq4.symm.trans hi)
            have d70 : (T.getD 70 undef) = .pointer (some ⟨C.G, 0, none⟩) := (hdep 3 _ (odt (by kernel_rfl)) oq3).2
            have e70 := zan (by omega) d70
            clear d70
            subst hJ
            refine zaj rfl ?_
            refine zao (E := fun w' => W.grownBy w' (none)) (Φ := PhiS C.G C.mb Pv np cv r k 4) fun K hK => ?_
            clear hdep hfree hsz hops fr oq0 oq1 oq2 oq3 oq4 oq5 oq6 oq7 oq8 oq9
            go_simp
            exact hK (.pointer (some ⟨C.G, 1, none⟩)) _ (zak _ _) rfl rfl
          | 5, _, hi, hXi, hP =>
            obtain rfl := Option.some.inj (oq5.symm.trans hi)
            have d71 : (T.getD 71 undef) = .pointer (some ⟨C.G, 1, none⟩) := (hdep 4 _ (odt (by kernel_rfl)) oq4).2
            have e71 := zan (by omega) d71
            clear d71
            subst hJ
            refine zaj rfl ?_
            refine zao (E := fun w' => W.grownBy w' (none)) (Φ := PhiS C.G C.mb Pv np cv r k 5) fun K hK => ?_
            clear hdep hfree hsz hops fr oq0 oq1 oq2 oq3 oq4 oq5 oq6 oq7 oq8 oq9
            go_simp
            exact hK (.slice Pv np cv) _ (zak _ _) rfl rfl
          | 6, _, hi, hXi, hP =>
            obtain rfl := Option.some.inj (oq6.symm.trans hi)
            have d72 : (T.getD 72 undef) = .slice Pv np cv := (hdep 5 _ (odt (by kernel_rfl)) oq5).2
            have e72 := zan (by omega) d72
            clear d72
            subst hJ
            refine zaj rfl ?_
            refine zao (E := fun w' => W.grownBy w' (none)) (Φ := PhiS C.G C.mb Pv np cv r k 6) fun K hK => ?_
            clear hdep hfree hsz hops fr oq0 oq1 oq2 oq3 oq4 oq5 oq6 oq7 oq8 oq9
            go_simp
            exact hK (.int .i64 (np : Int)) _ (zak _ _) rfl rfl
          | 7, _, hi, hXi, hP =>
            obtain rfl := Option.some.inj (oq7.symm.trans hi)
            have e14 : T[14]? = some (.int .i64 (r : Int)) := hfree 14 (fr 14 (by kernel_rfl))
            subst hJ
            refine zaj rfl ?_
            refine zao (E := fun w' => W.grownBy w' (none)) (Φ := PhiS C.G C.mb Pv np cv r k 7) fun K hK => ?_
            clear hdep hfree hsz hops fr oq0 oq1 oq2 oq3 oq4 oq5 oq6 oq7 oq8 oq9
            go_simp
            exact hK (.int .i64 (r : Int)) _ (zak _ _) rfl rfl
          | 8, _, hi, hXi, hP =>
            obtain rfl := Option.some.inj (oq8.symm.trans hi)
            have e13 : T[13]? = some (.int .i64 (k : Int)) := hfree 13 (fr 13 (by kernel_rfl))
            subst hJ
            refine zaj rfl ?_
            refine zao (E := fun w' => W.grownBy w' (none)) (Φ := PhiS C.G C.mb Pv np cv r k 8) fun K hK => ?_
            clear hdep hfree hsz hops fr oq0 oq1 oq2 oq3 oq4 oq5 oq6 oq7 oq8 oq9
            go_simp
            exact hK (.int .i64 (k : Int)) _ (zak _ _) rfl rfl
          | i + 9, hin, hi, hXi, hP => exact absurd hin (by omega)
        case fin =>
          intro a W X hsz hdf hJ hfree hall
          obtain ⟨⟨l⟩, df⟩ := a
          replace hsz : l.length = 131 := hsz
          obtain ⟨fs, rfl⟩ := open131 hsz
          obtain rfl : df = [] := hdf
          have bs5 : fs 5 = .pointer (some ⟨(C.G + 1), 0, none⟩) := Option.some.inj (hfree 5 (fr 5 (by kernel_rfl)))
          have bs12 : fs 12 = .pointer (some ⟨C.MV, 0, none⟩) := Option.some.inj (hfree 12 (fr 12 (by kernel_rfl)))
          have bs13 : fs 13 = .int .i64 (k : Int) := Option.some.inj (hfree 13 (fr 13 (by kernel_rfl)))
          have bs14 : fs 14 = .int .i64 (r : Int) := Option.some.inj (hfree 14 (fr 14 (by kernel_rfl)))
          have x68 : X 1 = some (fs 68) := (hall 1 _ (by omega) oq1).1
          have q68 : (fs 68) = .func (.func 103) #[.pointer (some ⟨C.G, 0, none⟩)] #[] := (hall 1 _ (by omega) oq1).2
          clear x68
          have x73 : X 6 = some (fs 73) := (hall 6 _ (by omega) oq6).1
          have q73 : (fs 73) = .int .i64 (np : Int) := (hall 6 _ (by omega) oq6).2
          clear x73
          have x74 : X 7 = some (fs 74) := (hall 7 _ (by omega) oq7).1
          have q74 : (fs 74) = .int .i64 (r : Int) := (hall 7 _ (by omega) oq7).2
          clear x74
          have x75 : X 8 = some (fs 75) := (hall 8 _ (by omega) oq8).1
          have q75 : (fs 75) = .int .i64 (k : Int) := (hall 8 _ (by omega) oq8).2
          clear x75
          clear hall hfree hsz
          rw [hops]
          clear hops fr oq0 oq1 oq2 oq3 oq4 oq5 oq6 oq7 oq8 oq9
          rw [bs5, bs12, bs13, bs14, q68, q73, q74, q75]
          clear bs5 bs12 bs13 bs14 q68 q73 q74 q75
          subst hJ
          clear a0 a1 a2 hl
          show wpListIn _ _ _ _ _ [_] _ _
          gi_wp2
          have hnn : np < C.n := by omega
          have inv1 := Inv1.out
          refine ⟨trivial, CallsIn.inRound _ (callsIn_wide.2 ((swap_s inv1.mat inv1.row (by omega) hnn hrn (k : Int)).mono ?_))⟩
          rintro e W1 ⟨rfl, hM1, ho1⟩
          obtain ⟨rb1, hrb1⟩ : ∃ x, x = swF rb np r := ⟨_, rfl⟩
          obtain ⟨cp1, hcp1⟩ : ∃ x, x = swF cp np r := ⟨_, rfl⟩
          obtain ⟨A1, hA1⟩ : ∃ x, x = swF s.A np r := ⟨_, rfl⟩
          have hbd1 : ∀ a b, a < C.n → b < C.m → Sz ((A1 a b : Int) : Rat) 100000 := by rw [hA1]; exact swF_bnd HBS.out.1 hnn hrn
          rw [← hrb1, ← hcp1, ← hA1] at hM1
          have inv2 : InvR C W1 ⟨A1, s.d, s.piv⟩ S rb1 cp1 Pv D cv cd := inv1.move Ok.out hM1 ho1.grown (fun b e => .inl (by cases e; rfl)) (by rw [hrb1]; exact swF_ex rb hnn hrn) (fun b h => h) (fun b h => .inl h)
          have Hk1 : Hid (KeepsFrom C.b1 Wr W1) := Hk0.out.trans (KeepsFrom.of_grownBy ho1.grown (fun j e => by cases e; exact inv1.f0.2.2))
          have Hb1 : Hid (Below w.heap.size w W1) := Hb0.out.grown ho1.grown Hb0.out.size (fun x e => by cases e; rw [← E0.out]; exact inv1.f0.2.1)
          have HA1 := Lib.hid hA1
          have a0 := inv2.fx.mv.cell 0
          have a1 := inv2.row.cell 1
          have a2 := inv2.fx.v.cell 0
          simp at a0 a1 a2
          rw [← Hnp.out] at a1
          have hl := zfn (P := Tryd.prog) 136 _ _ C.mb 3 _ 2 1 _ Tryd.underlying136 Tryd.underlying3 (inv2.fx.mo.trans (by rw [EE.out])) rfl
          have Inv2 := Lib.hid inv2
          have Hbd1 := Lib.hid hbd1
          clear inv1 inv2 Inv1 hM1 ho1 hrb1 hcp1 hA1 Hk0 Hb0 hbd1 Hwd
          gi_wp2
          clear a0 a1 a2 hl
          have inv2 := Inv2.out
          refine ⟨trivial, CallsIn.inRound _ (callsIn_wide.2 ((flip_s inv2.mat inv2.row (Ne.symm (inv2.fr np hnn).1.1) (by omega) (by omega) hnn hkm (fun b hb => Hbd1.out np b hnn hb) (np : Int)).mono ?_))⟩
          rintro e W2 ⟨rfl, hM2, hg2⟩
          obtain ⟨A2, hA2⟩ : ∃ x, x = zdg A1 C.m np k := ⟨_, rfl⟩
          have hbd2 : ∀ a b, a < C.n → b < C.m → Sz ((A2 a b : Int) : Rat) 100000 := by rw [hA2]; exact flipM_bnd Hbd1.out
          rw [← hA2] at hM2
          have inv3 : InvR C W2 ⟨A2, s.d, s.piv⟩ (SN S W1.heap.size W2) rb1 cp1 Pv D cv cd := inv2.move Ok.out hM2 hg2 (fun b e => .inr ⟨np, hnn, by cases e; rfl⟩) (fun i hi => ⟨i, hi, rfl⟩) (fun b h => .inl h) (fun b h => h.imp id And.left)
          have Hk2 : Hid (KeepsFrom C.b1 Wr W2) := Hk1.out.trans (KeepsFrom.of_grownBy hg2 (fun j e => by cases e; exact (inv2.fr np hnn).2.2))
          have Hb2 : Hid (Below w.heap.size w W2) := Hb1.out.grown hg2 Hb1.out.size (fun x e => by cases e; rw [← E0.out]; exact (inv2.fr np hnn).2.1)
          have HA2 : Hid (A2 = zdg (swF s.A s.piv.length r) C.m s.piv.length k) := by rw [Hid, hA2, HA1.out, Hnp.out]
          have Hbd2 := Lib.hid hbd2
          have Hbd3 : Hid (∀ a b, a < C.n → b < C.m → Sz ((zch A2 C.m np k s.d C.n a b : Int) : Rat) 100000) := by
            have h := HBN.out.1
            rw [stepG] at h
            dsimp only at h
            rw [← HA2.out, ← Hnp.out] at h
            exact h
          have Inv3 := Lib.hid inv3
          have a0 := inv3.row.cell 0
          have a2 := inv3.fx.v.cell 0
          simp at a0 a2
          obtain ⟨S3, hS3⟩ : ∃ x, x = SN S W1.heap.size W2 := ⟨_, rfl⟩
          rw [← hS3] at Inv3
          clear inv2 inv3 Inv2 hM2 hg2 hA2 Hbd1 hbd2 Hk1 Hb1 HA1 hS3
          gi_wp2
          clear a0 a2
          gi_loopw [93, 15] (fun ii _ wr => ∃ (o : Nat) (T : Nat → Prop), o ≤ C.n ∧ ii = .int .i64 (o : Int) ∧ Hid (InvR C wr ⟨zch A2 C.m np k s.d o, s.d, s.piv⟩ T rb1 cp1 Pv D cv cd ∧ Below w.heap.size w wr ∧ KeepsFrom C.b1 Wr wr)) (fun ii _ _ => C.n - (intOf ii).toNat)
          case atStart => exact ⟨0, S3, Nat.zero_le _, rfl, by rw [clrTo_zero]; exact ⟨Inv3.out, Hb2.out, Hk2.out⟩⟩
          case round =>
            obtain ⟨o, T, hon, rfl, hinv⟩ := hrel
            have inv4 := hinv.out.1
            rcases Nat.lt_or_ge o C.n with hlt | hge
            · by_cases honp : o = np
              · have Hinv := hinv.out
                have Ho := Lib.hid honp
                have hoo : (o : Int) = (np : Int) := by rw [honp]
                clear inv4 honp
                gi_wp2
                go_roundw
                case rel => exact ⟨o + 1, T, hlt, by go_num, by have e := clrTo_skip A2 C.m np k s.d; have h := Hinv; rw [Ho.out] at h ⊢; rw [← e]; exact h⟩
                case measure => simp [intOf]; omega
              · have hne : ¬ ((o : Int) = (np : Int)) := by omega
                have Hne := Lib.hid honp
                have a0 := inv4.fx.mv.cell 0
                simp at a0
                have hl := zfn (P := Tryd.prog) 136 _ _ C.mb 3 _ 3 2 _ Tryd.underlying136 Tryd.underlying3 (inv4.fx.mo.trans (by rw [EE.out])) rfl
                clear inv4 honp
                gi_wp2
                clear a0 hl
                have inv4 := hinv.out.1
                have hbd3 := clrTo_bnd Hbd2.out Hbd3.out hon
                refine ⟨trivial, CallsIn.inRound _ (callsIn_wide.2 ((clear_s inv4.mat inv4.row inv4.num (Ne.symm (inv4.fr o hlt).1.1) (by omega) (by omega) hnn hlt (Ne.symm Hne.out) hkm (fun a b ha hb => (hbd3 a b ha hb).le (by omega)) HBS.out.2.1 HBS.out.2.2).mono ?_))⟩
                rintro e W4 ⟨rfl, hM4, hg4⟩
                have inv5 := inv4.move Ok.out (hM4.same fun a b _ _ => clrTo_succ A2 Hne.out a b) hg4 (fun b e => .inr ⟨o, hlt, by cases e; rfl⟩) (fun i hi => ⟨i, hi, rfl⟩) (fun b h => .inl h) (fun b h => h.imp id And.left)
                have Inv5 := Lib.hid inv5
                have Hk5 : Hid (KeepsFrom C.b1 Wr W4) := hinv.out.2.2.trans (KeepsFrom.of_grownBy hg4 (fun j e => by cases e; exact (inv4.fr o hlt).2.2))
                have Hb5 : Hid (Below w.heap.size w W4) := hinv.out.2.1.grown hg4 hinv.out.2.1.size (fun x e => by cases e; rw [← E0.out]; exact (inv4.fr o hlt).2.1)
                clear inv4 inv5 hM4 hg4 hbd3
                gi_wp2
                go_roundw
                case rel => exact ⟨o + 1, _, hlt, by go_num, Inv5.out, Hb5.out, Hk5.out⟩
                case measure => simp [intOf]; omega
            · have eo : o = C.n := by omega
              subst eo
              have hoo : ¬ C.n < C.n := by omega
              have Hinv := hinv
              clear inv4 hge
              gi_wp2
              obtain ⟨A3, hA3⟩ : ∃ x, x = zch A2 C.m np k s.d C.n := ⟨_, rfl⟩
              have h6 := Hinv.out
              rw [← hA3] at h6
              have HA3 := Lib.hid hA3
              obtain ⟨wd, hwd⟩ : ∃ x, x = wr.drew := ⟨_, rfl⟩
              have inv6 : InvR C wd ⟨A3, s.d, s.piv⟩ T rb1 cp1 Pv D cv cd := h6.1.below Ok.out (by rw [hwd]; exact zab _)
              have Hk6 : Hid (KeepsFrom C.b1 Wr wd) := by rw [Hid, hwd]; exact h6.2.2.trans ((KeepsOthers.drew wr).from _)
              have Hb6 : Hid (Below w.heap.size w wd) := by rw [Hid, hwd]; exact zaa h6.2.1 (zab _)
              have Hwd := Lib.hid hwd
              have Inv6 := Lib.hid inv6
              obtain ⟨Pd, kd, Qd, ld1, e0', e1', e2', eq'⟩ := inv6.mat.el np k hnn hkm
              have Num6 : Hid (NumS wd T (.slice Pd (lim (A3 np k).natAbs).length kd) (A3 np k).natAbs) := by
                have h := zdm eq'
                rw [Rat.num_intCast] at h
                exact h
              have ci := inv6.mat.hd np hnn
              have hcap := inv6.mat.cap np hnn
              obtain ⟨V, hV⟩ : ∃ x, x = rb1 np := ⟨_, rfl⟩
              obtain ⟨cV, hcV⟩ : ∃ x, x = cp1 np := ⟨_, rfl⟩
              dsimp only at e1'
              rw [← hV] at e1' ci
              rw [← hcV] at ci hcap
              obtain ⟨ld, hld⟩ : ∃ x, x = (lim (A3 np k).natAbs).length := ⟨_, rfl⟩
              rw [← hld] at e1'
              have Hld := Lib.hid hld
              have g0 := inv6.row.cell 0
              have g2 := inv6.row.cell 2
              have f2 := inv6.row.frozen 2
              have v0 := inv6.fx.v.cell 0
              simp at g0 g2 v0
              have hi0 : (0 : Int) ≤ (np : Int) := by omega
              have hi1 : (np : Int) < (C.n : Int) := by omega
              have hj0 : (0 : Int) ≤ (k : Int) := by omega
              have hj1 : (k : Int) < (C.m : Int) := by omega
              have hcap1 := hcap.1
              have hcap2 : cV ≤ 9223372036854775807 := by have := hcap.2; unfold maxLen at this; omega
              have cr := zbr
              clear h6 inv6 hA3 hwd e0' e2' eq' hV hcV hcap hld
              refine regionIn_abs fun ops hops => ?_
              have oq0 := zax (j := 0) hops rfl
              have oq1 := zax (j := 1) hops rfl
              have oq2 := zax (j := 2) hops rfl
              have oq3 := zax (j := 3) hops rfl
              have oq4 := zax (j := 4) hops rfl
              have oq5 := zax (j := 5) hops rfl
              have oq6 := zax (j := 6) hops rfl
              have oq7 := zax (j := 7) hops rfl
              have oq8 := zax (j := 8) hops rfl
              have oq9 := zax (j := 9) hops rfl
              have oq10 := zax (j := 10) hops rfl
              have oq11 := zax (j := 11) hops rfl
              have oq12 := zax (j := 12) hops rfl
              have oq13 := zax (j := 13) hops rfl
              have oq14 := zax (j := 14) hops rfl
              have fr := fun t h => zey (n := 14) hops t h
              refine zfo 14 (PhiD C.G C.r0 C.n C.c0 np V C.m cV k Pd ld kd) (fun _ _ => True) (fun x => x = wd) (fun _ w w' => w.grownBy w' none) hmo (noDefer_at (by rw [hops]; kernel_rfl)) Hwd.out.symm (fun _ => trivial) (fun _ _ _ _ _ _ _ _ => trivial) (fun i _ v wa wb X u _ _ h _ _ => phiD_st _ _ _ _ _ _ _ _ _ _ _ _ i v wa wb X _ h) (by rw [hops]; kernel_rfl) (by rw [hops]; kernel_rfl) ?step ?fin
              case step =>
                intro i o hin hi a W X hsz hdf hJ hP hXi hfree hdep
                obtain ⟨T, df⟩ := a
                replace hsz : T.size = 131 := hsz
                obtain rfl : df = [] := hdf
                match i, hin, hi, hXi, hP with
                | 0, _, hi, hXi, hP =>
                  obtain rfl := Option.some.inj (oq0.symm.trans hi)
                  have e5 : T[5]? = some (.pointer (some ⟨(C.G + 1), 0, none⟩)) := hfree 5 (fr 5 (by kernel_rfl))
                  subst hJ
                  refine zaj rfl ?_
                  refine zao (E := fun w' => W.grownBy w' (none)) (Φ := PhiD C.G C.r0 C.n C.c0 np V C.m cV k Pd ld kd 0) fun K hK => ?_
                  clear hdep hfree hsz hops fr oq0 oq1 oq2 oq3 oq4 oq5 oq6 oq7 oq8 oq9 oq10 oq11 oq12 oq13 oq14
                  go_simp
                  exact hK (.pointer (some ⟨C.G, 0, none⟩)) _ (zak _ _) rfl rfl
                | 1, _, hi, hXi, hP =>
                  obtain rfl := Option.some.inj (oq1.symm.trans hi)
                  have e5 : T[5]? = some (.pointer (some ⟨(C.G + 1), 0, none⟩)) := hfree 5 (fr 5 (by kernel_rfl))
                  subst hJ
                  refine zaj rfl ?_
                  refine zao (E := fun w' => W.grownBy w' (none)) (Φ := PhiD C.G C.r0 C.n C.c0 np V C.m cV k Pd ld kd 1) fun K hK => ?_
                  clear hdep hfree hsz hops fr oq0 oq1 oq2 oq3 oq4 oq5 oq6 oq7 oq8 oq9 oq10 oq11 oq12 oq13 oq14
                  go_simp
                  exact hK (.pointer (some ⟨C.G, 0, none⟩)) _ (zak _ _) rfl rfl
                | 2, _, hi, hXi, hP =>
                  obtain rfl := Option.some.inj (oq2.symm.trans hi)
                  have d107 : (T.getD 107 undef) = .pointer (some ⟨C.G, 0, none⟩) := (hdep 1 _ (odt (by kernel_rfl)) oq1).2
                  have e107 := zan (by omega) d107
                  clear d107
                  subst hJ
                  refine zaj rfl ?_
                  refine zao (E := fun w' => W.grownBy w' (none)) (Φ := PhiD C.G C.r0 C.n C.c0 np V C.m cV k Pd ld kd 2) fun K hK => ?_
                  clear hdep hfree hsz hops fr oq0 oq1 oq2 oq3 oq4 oq5 oq6 oq7 oq8 oq9 oq10 oq11 oq12 oq13 oq14
                  go_simp
                  exact hK (.pointer (some ⟨C.G, 0, none⟩)) _ (zak _ _) rfl rfl
                | 3, _, hi, hXi, hP =>
                  obtain rfl := Option.some.inj (oq3.symm.trans hi)
                  have d108 : (T.getD 108 undef) = .pointer (some ⟨C.G, 0, none⟩) := (hdep 2 _ (odt (by kernel_rfl)) oq2).2
                  have e108 := zan (by omega) d108
                  clear d108
                  subst hJ
                  refine zaj rfl ?_
                  refine zao (E := fun w' => W.grownBy w' (none)) (Φ := PhiD C.G C.r0 C.n C.c0 np V C.m cV k Pd ld kd 3) fun K hK => ?_
                  clear hdep hfree hsz hops fr oq0 oq1 oq2 oq3 oq4 oq5 oq6 oq7 oq8 oq9 oq10 oq11 oq12 oq13 oq14
                  go_simp
                  exact hK (.pointer (some ⟨C.G, 0, none⟩)) _ (zak _ _) rfl rfl
                | 4, _, hi, hXi, hP =>
                  obtain rfl := Option.some.inj (oq4.symm.trans hi)
                  have d109 : (T.getD 109 undef) = .pointer (some ⟨C.G, 0, none⟩) := (hdep 3 _ (odt (by kernel_rfl)) oq3).2
                  have e109 := zan (by omega) d109
                  clear d109
                  subst hJ
                  refine zaj rfl ?_
                  refine zao (E := fun w' => W.grownBy w' (none)) (Φ := PhiD C.G C.r0 C.n C.c0 np V C.m cV k Pd ld kd 4) fun K hK => ?_
                  clear hdep hfree hsz hops fr oq0 oq1 oq2 oq3 oq4 oq5 oq6 oq7 oq8 oq9 oq10 oq11 oq12 oq13 oq14
                  go_simp
                  exact hK (.slice (some ⟨C.r0, 0, none⟩) C.n C.c0) _ (zak _ _) rfl rfl
                | 5, _, hi, hXi, hP =>
                  obtain rfl := Option.some.inj (oq5.symm.trans hi)
                  have e14 : T[14]? = some (.int .i64 (np : Int)) := hfree 14 (fr 14 (by kernel_rfl))
                  subst hJ
                  refine zaj rfl ?_
                  refine zao (E := fun w' => W.grownBy w' (none)) (Φ := PhiD C.G C.r0 C.n C.c0 np V C.m cV k Pd ld kd 5) fun K hK => ?_
                  clear hdep hfree hsz hops fr oq0 oq1 oq2 oq3 oq4 oq5 oq6 oq7 oq8 oq9 oq10 oq11 oq12 oq13 oq14
                  go_simp
                  exact hK (.int .i64 (np : Int)) _ (zak _ _) rfl rfl
                | 6, _, hi, hXi, hP =>
                  obtain rfl := Option.some.inj (oq6.symm.trans hi)
                  have d110 : (T.getD 110 undef) = .slice (some ⟨C.r0, 0, none⟩) C.n C.c0 := (hdep 4 _ (odt (by kernel_rfl)) oq4).2
                  have e110 := zan (by omega) d110
                  clear d110
                  have d111 : (T.getD 111 undef) = .int .i64 (np : Int) := (hdep 5 _ (odt (by kernel_rfl)) oq5).2
                  have e111 := zan (by omega) d111
                  clear d111
                  subst hJ
                  refine zaj rfl ?_
                  refine zao (E := fun w' => W.grownBy w' (none)) (Φ := PhiD C.G C.r0 C.n C.c0 np V C.m cV k Pd ld kd 6) fun K hK => ?_
                  clear hdep hfree hsz hops fr oq0 oq1 oq2 oq3 oq4 oq5 oq6 oq7 oq8 oq9 oq10 oq11 oq12 oq13 oq14
                  go_simp
                  exact hK (.pointer (some ⟨C.r0, np, none⟩)) _ (zak _ _) rfl rfl
                | 7, _, hi, hXi, hP =>
                  obtain rfl := Option.some.inj (oq7.symm.trans hi)
                  have d112 : (T.getD 112 undef) = .pointer (some ⟨C.r0, np, none⟩) := (hdep 6 _ (odt (by kernel_rfl)) oq6).2
                  have e112 := zan (by omega) d112
                  clear d112
                  subst hJ
                  refine zaj rfl ?_
                  refine zao (E := fun w' => W.grownBy w' (none)) (Φ := PhiD C.G C.r0 C.n C.c0 np V C.m cV k Pd ld kd 7) fun K hK => ?_
                  clear hdep hfree hsz hops fr oq0 oq1 oq2 oq3 oq4 oq5 oq6 oq7 oq8 oq9 oq10 oq11 oq12 oq13 oq14
                  go_simp
                  exact hK (.slice (some ⟨V, 0, none⟩) C.m cV) _ (zak _ _) rfl rfl
                | 8, _, hi, hXi, hP =>
                  obtain rfl := Option.some.inj (oq8.symm.trans hi)
                  have e13 : T[13]? = some (.int .i64 (k : Int)) := hfree 13 (fr 13 (by kernel_rfl))
                  subst hJ
                  refine zaj rfl ?_
                  refine zao (E := fun w' => W.grownBy w' (none)) (Φ := PhiD C.G C.r0 C.n C.c0 np V C.m cV k Pd ld kd 8) fun K hK => ?_
                  clear hdep hfree hsz hops fr oq0 oq1 oq2 oq3 oq4 oq5 oq6 oq7 oq8 oq9 oq10 oq11 oq12 oq13 oq14
                  go_simp
                  exact hK (.int .i64 (k : Int)) _ (zak _ _) rfl rfl
                | 9, _, hi, hXi, hP =>
                  obtain rfl := Option.some.inj (oq9.symm.trans hi)
                  have d113 : (T.getD 113 undef) = .slice (some ⟨V, 0, none⟩) C.m cV := (hdep 7 _ (odt (by kernel_rfl)) oq7).2
                  have e113 := zan (by omega) d113
                  clear d113
                  have d114 : (T.getD 114 undef) = .int .i64 (k : Int) := (hdep 8 _ (odt (by kernel_rfl)) oq8).2
                  have e114 := zan (by omega) d114
                  clear d114
                  subst hJ
                  refine zaj rfl ?_
                  refine zao (E := fun w' => W.grownBy w' (none)) (Φ := PhiD C.G C.r0 C.n C.c0 np V C.m cV k Pd ld kd 9) fun K hK => ?_
                  clear hdep hfree hsz hops fr oq0 oq1 oq2 oq3 oq4 oq5 oq6 oq7 oq8 oq9 oq10 oq11 oq12 oq13 oq14
                  go_simp
                  exact hK (.pointer (some ⟨V, (k * 3), none⟩)) _ (zak _ _) rfl rfl
                | 10, _, hi, hXi, hP =>
                  obtain rfl := Option.some.inj (oq10.symm.trans hi)
                  have d115 : (T.getD 115 undef) = .pointer (some ⟨V, (k * 3), none⟩) := (hdep 9 _ (odt (by kernel_rfl)) oq9).2
                  have e115 := zan (by omega) d115
                  clear d115
                  subst hJ
                  refine zaj rfl ?_
                  refine zao (E := fun w' => W.grownBy w' (none)) (Φ := PhiD C.G C.r0 C.n C.c0 np V C.m cV k Pd ld kd 10) fun K hK => ?_
                  clear hdep hfree hsz hops fr oq0 oq1 oq2 oq3 oq4 oq5 oq6 oq7 oq8 oq9 oq10 oq11 oq12 oq13 oq14
                  go_simp
                  exact hK (.pointer (some ⟨V, (k * 3 + 1), none⟩)) _ (zak _ _) rfl rfl
                | 11, _, hi, hXi, hP =>
                  obtain rfl := Option.some.inj (oq11.symm.trans hi)
                  have d116 : (T.getD 116 undef) = .pointer (some ⟨V, (k * 3 + 1), none⟩) := (hdep 10 _ (odt (by kernel_rfl)) oq10).2
                  have e116 := zan (by omega) d116
                  clear d116
                  subst hJ
                  refine zaj rfl ?_
                  refine zao (E := fun w' => W.grownBy w' (none)) (Φ := PhiD C.G C.r0 C.n C.c0 np V C.m cV k Pd ld kd 11) fun K hK => ?_
                  clear hdep hfree hsz hops fr oq0 oq1 oq2 oq3 oq4 oq5 oq6 oq7 oq8 oq9 oq10 oq11 oq12 oq13 oq14
                  go_simp
                  exact hK (.slice Pd ld kd) _ (zak _ _) rfl rfl
                | 12, _, hi, hXi, hP =>
                  obtain rfl := Option.some.inj (oq12.symm.trans hi)
                  have d106 : (T.getD 106 undef) = .pointer (some ⟨C.G, 0, none⟩) := (hdep 0 _ (odt (by kernel_rfl)) oq0).2
                  have e106 := zan (by omega) d106
                  clear d106
                  subst hJ
                  refine zaj rfl ?_
                  refine zao (E := fun w' => W.grownBy w' (none)) (Φ := PhiD C.G C.r0 C.n C.c0 np V C.m cV k Pd ld kd 12) fun K hK => ?_
                  clear hdep hfree hsz hops fr oq0 oq1 oq2 oq3 oq4 oq5 oq6 oq7 oq8 oq9 oq10 oq11 oq12 oq13 oq14
                  go_simp
                  exact hK (.pointer (some ⟨C.G, 0, none⟩)) _ (zak _ _) rfl rfl
                | 13, _, hi, hXi, hP =>
                  obtain rfl := Option.some.inj (oq13.symm.trans hi)
                  have d118 : (T.getD 118 undef) = .pointer (some ⟨C.G, 0, none⟩) := (hdep 12 _ (odt (by kernel_rfl)) oq12).2
                  have e118 := zan (by omega) d118
                  clear d118
                  subst hJ
                  refine zaj rfl ?_
                  refine zao (E := fun w' => W.grownBy w' (none)) (Φ := PhiD C.G C.r0 C.n C.c0 np V C.m cV k Pd ld kd 13) fun K hK => ?_
                  clear hdep hfree hsz hops fr oq0 oq1 oq2 oq3 oq4 oq5 oq6 oq7 oq8 oq9 oq10 oq11 oq12 oq13 oq14
                  go_simp
                  exact hK (.pointer (some ⟨C.G, 2, none⟩)) _ (zak _ _) rfl rfl
                | i + 14, hin, hi, hXi, hP => exact absurd hin (by omega)
              case fin =>
                intro a W X hsz hdf hJ hfree hall
                obtain ⟨⟨l⟩, df⟩ := a
                replace hsz : l.length = 131 := hsz
                obtain ⟨fs, rfl⟩ := open131 hsz
                obtain rfl : df = [] := hdf
                have bs5 : fs 5 = .pointer (some ⟨(C.G + 1), 0, none⟩) := Option.some.inj (hfree 5 (fr 5 (by kernel_rfl)))
                have bs12 : fs 12 = .pointer (some ⟨C.MV, 0, none⟩) := Option.some.inj (hfree 12 (fr 12 (by kernel_rfl)))
                have bs13 : fs 13 = .int .i64 (k : Int) := Option.some.inj (hfree 13 (fr 13 (by kernel_rfl)))
                have bs14 : fs 14 = .int .i64 (np : Int) := Option.some.inj (hfree 14 (fr 14 (by kernel_rfl)))
                have x117 : X 11 = some (fs 117) := (hall 11 _ (by omega) oq11).1
                have q117 : (fs 117) = .slice Pd ld kd := (hall 11 _ (by omega) oq11).2
                clear x117
                have x119 : X 13 = some (fs 119) := (hall 13 _ (by omega) oq13).1
                have q119 : (fs 119) = .pointer (some ⟨C.G, 2, none⟩) := (hall 13 _ (by omega) oq13).2
                clear x119
                clear hall hfree hsz
                rw [hops]
                clear hops fr oq0 oq1 oq2 oq3 oq4 oq5 oq6 oq7 oq8 oq9 oq10 oq11 oq12 oq13 oq14
                rw [bs5, bs12, bs13, bs14, q117, q119]
                clear bs5 bs12 bs13 bs14 q117 q119
                subst hJ
                show wpListIn _ _ _ _ _ [_] _ _
                gi_wp2
                obtain ⟨W7, hW7⟩ : ∃ x, x = W.setCell ⟨C.G, 2, none⟩ (.slice Pd ld kd) := ⟨_, rfl⟩
                rw [← hW7]
                have inv6 := Inv6.out
                have hlo := Ok.out.lo
                have hltb := Ok.out.lt
                have g7 : W.grownBy W7 (some C.G) := by rw [hW7]; exact zcl _ _ _ _
                have inv7 : InvR C W7 ⟨A3, (A3 np k).natAbs, s.piv⟩ T rb1 cp1 Pv Pd cv kd := inv6.put g7.size (fun b h1 h2 h3 => g7.block b h1 (fun e => h2 (by cases e; rfl))) (by rw [hW7, ← Hld.out]; exact inv6.row.set_ 2 _) Num6.out
                  (inv6.piv.grown IsVal.stb g7 (fun b e => ⟨fun e2 => by have := (inv6.piv.own_lt b e2).1; cases e; omega, fun h => h⟩)) (fun b _ h => h) Ok.out
                obtain ⟨wn, hwn⟩ : ∃ x, x = W7.drew := ⟨_, rfl⟩
                have inv8 : InvR C wn ⟨A3, (A3 np k).natAbs, s.piv⟩ T rb1 cp1 Pv Pd cv kd := inv7.below Ok.out (by rw [hwn]; exact zab _)
                have Hk8 : Hid (KeepsFrom C.b1 Wr wn) := by rw [Hid, hwn]; exact (Hk6.out.trans (KeepsFrom.of_grownBy g7 (fun j e => by cases e; omega))).trans ((KeepsOthers.drew W7).from _)
                have Hb8 : Hid (Below w.heap.size w wn) := by rw [Hid, hwn]; exact zaa (Hb6.out.grown g7 Hb6.out.size (fun x e => by cases e; have := E0.out; omega)) (zab _)
                obtain ⟨vp, hvp⟩ : ∃ x, x = Value.slice Pv s.piv.length cv := ⟨_, rfl⟩
                obtain ⟨hs, hhs⟩ : ∃ x, x = s.piv.map (fun (k : Nat) => Value.int .i64 (k : Int)) := ⟨_, rfl⟩
                have hown : OwnS 1 3 IsVal wn C.b1 (fun _ => False) vp hs := by rw [hvp, hhs]; exact inv8.piv
                have hov := OwnS.own_lt hown
                have Own := Lib.hid hown
                have SM : Hid (hs.length < 100) := by rw [Hid, hhs, List.length_map, ← Hnp.out]; omega
                have SBs : Hid (C.b1 ≤ wn.heap.size) := inv8.sz
                have SG : Hid (∀ b, vp.ownBlock = some b → (C.G + 1) ≠ b ∧ C.G ≠ b) := fun b e => by have := (hov b e).1; omega
                have Svn : Hid (∀ b, vp.ownBlock = some b → b < wn.heap.size) := fun b e => (hov b e).2
                have RGn : Hid (Row wn C.G 110 [.slice (some ⟨C.r0, 0, none⟩) C.n C.c0, vp, .slice Pd (lim (A3 np k).natAbs).length kd]) := by rw [Hid, hvp]; exact inv8.row
                have RVn := Lib.hid inv8.fx.v
                have Inv8 := Lib.hid inv8
                have Hwn := Lib.hid hwn
                have Hvp := Lib.hid hvp
                have Hhs := Lib.hid hhs
                clear inv6 inv7 inv8 g7 hwn hvp hhs hown hov hW7 Inv6 Hk6 Hb6 hi0 hi1 hj0 hj1 hcap1 hcap2 g0 g2 f2 v0 ci e1' cr
                refine regionIn_abs fun ops hops => ?_
                have oq0 := zax (j := 0) hops rfl
                have oq1 := zax (j := 1) hops rfl
                have oq2 := zax (j := 2) hops rfl
                have oq3 := zax (j := 3) hops rfl
                have oq4 := zax (j := 4) hops rfl
                have oq5 := zax (j := 5) hops rfl
                have oq6 := zax (j := 6) hops rfl
                have oq7 := zax (j := 7) hops rfl
                have oq8 := zax (j := 8) hops rfl
                have oq9 := zax (j := 9) hops rfl
                have oq10 := zax (j := 10) hops rfl
                have fr := fun t h => zey (n := 10) hops t h
                refine zfo 10 (PhiP C.G vp hs k wn.heap.size C.b1) (PreP C.b1 vp hs) (JR (C.G + 1) C.G [.slice (some ⟨C.r0, 0, none⟩) C.n C.c0, vp, .slice Pd (lim (A3 np k).natAbs).length kd] vp.ownBlock wn) (fun k w w' => w.grownBy w' (blkP vp k)) hmo (noDefer_at (by rw [hops]; kernel_rfl)) ?hJ0 ?hP0 ?hPs ?hst (by rw [hops]; kernel_rfl) (by rw [hops]; kernel_rfl) ?step ?fin
                case hJ0 => rw [← Hwn.out]; exact ⟨RVn.out, RGn.out, Kept.refl _ _ _ _⟩
                case hP0 => exact fun i _ => by rw [← Hwn.out]; exact Own.out
                case hPs =>
                  intro i k' wa wb' hik h hJ hE e7
                  subst e7
                  refine OwnS.grown IsVal.stb (h rfl) hE fun b e => ?_
                  unfold blkP at e
                  split at e
                  · exact absurd rfl hik
                  · cases e
                case hst => exact fun i k' v wa wb' X u hik hX h hJ hE => phiP_st Svn.out i k' v wa wb' X u hik hX h hE
                case step =>
                  intro i o hin hi a W X hsz hdf hJ hP hXi hfree hdep
                  obtain ⟨T, df⟩ := a
                  replace hsz : T.size = 131 := hsz
                  obtain rfl : df = [] := hdf
                  match i, hin, hi, hXi, hP with
                  | 0, _, hi, hXi, hP =>
                    obtain rfl := Option.some.inj (oq0.symm.trans hi)
                    have e5 : T[5]? = some (.pointer (some ⟨(C.G + 1), 0, none⟩)) := hfree 5 (fr 5 (by kernel_rfl))
                    have c0 := hJ.1.cell 0
                    simp at c0
                    refine zaj rfl ?_
                    refine zao (E := fun w' => W.grownBy w' (none)) (Φ := PhiP C.G vp hs k wn.heap.size C.b1 0) fun K hK => ?_
                    clear hdep hfree hsz hops fr oq0 oq1 oq2 oq3 oq4 oq5 oq6 oq7 oq8 oq9 oq10
                    go_simp
                    exact hK (.pointer (some ⟨C.G, 0, none⟩)) _ (zak _ _) hJ rfl
                  | 1, _, hi, hXi, hP =>
                    obtain rfl := Option.some.inj (oq1.symm.trans hi)
                    have e5 : T[5]? = some (.pointer (some ⟨(C.G + 1), 0, none⟩)) := hfree 5 (fr 5 (by kernel_rfl))
                    have c0 := hJ.1.cell 0
                    simp at c0
                    refine zaj rfl ?_
                    refine zao (E := fun w' => W.grownBy w' (none)) (Φ := PhiP C.G vp hs k wn.heap.size C.b1 1) fun K hK => ?_
                    clear hdep hfree hsz hops fr oq0 oq1 oq2 oq3 oq4 oq5 oq6 oq7 oq8 oq9 oq10
                    go_simp
                    exact hK (.pointer (some ⟨C.G, 0, none⟩)) _ (zak _ _) hJ rfl
                  | 2, _, hi, hXi, hP =>
                    obtain rfl := Option.some.inj (oq2.symm.trans hi)
                    have d121 : (T.getD 121 undef) = .pointer (some ⟨C.G, 0, none⟩) := (hdep 1 _ (odt (by kernel_rfl)) oq1).2
                    have e121 := zan (by omega) d121
                    clear d121
                    refine zaj rfl ?_
                    refine zao (E := fun w' => W.grownBy w' (none)) (Φ := PhiP C.G vp hs k wn.heap.size C.b1 2) fun K hK => ?_
                    clear hdep hfree hsz hops fr oq0 oq1 oq2 oq3 oq4 oq5 oq6 oq7 oq8 oq9 oq10
                    go_simp
                    exact hK (.pointer (some ⟨C.G, 0, none⟩)) _ (zak _ _) hJ rfl
                  | 3, _, hi, hXi, hP =>
                    obtain rfl := Option.some.inj (oq3.symm.trans hi)
                    have d122 : (T.getD 122 undef) = .pointer (some ⟨C.G, 0, none⟩) := (hdep 2 _ (odt (by kernel_rfl)) oq2).2
                    have e122 := zan (by omega) d122
                    clear d122
                    refine zaj rfl ?_
                    refine zao (E := fun w' => W.grownBy w' (none)) (Φ := PhiP C.G vp hs k wn.heap.size C.b1 3) fun K hK => ?_
                    clear hdep hfree hsz hops fr oq0 oq1 oq2 oq3 oq4 oq5 oq6 oq7 oq8 oq9 oq10
                    go_simp
                    exact hK (.pointer (some ⟨C.G, 1, none⟩)) _ (zak _ _) hJ rfl
                  | 4, _, hi, hXi, hP =>
                    obtain rfl := Option.some.inj (oq4.symm.trans hi)
                    have d123 : (T.getD 123 undef) = .pointer (some ⟨C.G, 1, none⟩) := (hdep 3 _ (odt (by kernel_rfl)) oq3).2
                    have e123 := zan (by omega) d123
                    clear d123
                    obtain ⟨c0, c1, c2⟩ := zad hJ.2.1
                    refine zaj rfl ?_
                    refine zao (E := fun w' => W.grownBy w' (none)) (Φ := PhiP C.G vp hs k wn.heap.size C.b1 4) fun K hK => ?_
                    clear hdep hfree hsz hops fr oq0 oq1 oq2 oq3 oq4 oq5 oq6 oq7 oq8 oq9 oq10
                    go_simp
                    exact hK (vp) _ (zak _ _) hJ rfl
                  | 5, _, hi, hXi, hP =>
                    obtain rfl := Option.some.inj (oq5.symm.trans hi)
                    have e13 : T[13]? = some (.int .i64 (k : Int)) := hfree 13 (fr 13 (by kernel_rfl))
                    refine zaj rfl ?_
                    refine zao (E := fun w' => W.grownBy w' (none)) (Φ := PhiP C.G vp hs k wn.heap.size C.b1 5) fun K hK => ?_
                    clear hdep hfree hsz hops fr oq0 oq1 oq2 oq3 oq4 oq5 oq6 oq7 oq8 oq9 oq10
                    go_simp
                    exact hK (.int .i64 (k : Int)) _ (zak _ _) hJ rfl
                  | 6, _, hi, hXi, hP =>
                    obtain rfl := Option.some.inj (oq6.symm.trans hi)
                    have d125 : (T.getD 125 undef) = .int .i64 (k : Int) := (hdep 5 _ (odt (by kernel_rfl)) oq5).2
                    have e125 := zan (by omega) d125
                    clear d125
                    refine zaj rfl ?_
                    refine zao (E := fun w' => W.grownBy w' (none)) (Φ := PhiP C.G vp hs k wn.heap.size C.b1 6) fun K hK => ?_
                    clear hdep hfree hsz hops fr oq0 oq1 oq2 oq3 oq4 oq5 oq6 oq7 oq8 oq9 oq10
                    go_simp
                    exact hK (.slice (some ⟨W.heap.size, 0, none⟩) 1 1) _ (zdh _ _ _) (hJ.step (zdh _ _ _) (.inl rfl) (fun b e => by cases e)) ⟨W.heap.size, rfl, hJ.2.2.size, heap_alloc_new _ _⟩
                  | 7, _, hi, hXi, hP =>
                    obtain rfl := Option.some.inj (oq7.symm.trans hi)
                    have d124 : (T.getD 124 undef) = vp := (hdep 4 _ (odt (by kernel_rfl)) oq4).2
                    have e124 := zan (by omega) d124
                    clear d124
                    have d126 : NewRow W wn.heap.size 3 [.int .i64 (k : Int)] (T.getD 126 undef) := (hdep 6 _ (odt (by kernel_rfl)) oq6).2
                    obtain ⟨v126, e126, g126⟩ := zci (T := T) (t := 126) (by omega)
                    rw [g126] at d126
                    clear g126
                    refine zaj rfl ?_
                    refine zao (E := fun w' => W.grownBy w' (vp.ownBlock)) (Φ := PhiP C.G vp hs k wn.heap.size C.b1 7) fun K hK => ?_
                    clear hdep hfree hsz hops fr oq0 oq1 oq2 oq3 oq4 oq5 oq6 oq7 oq8 oq9 oq10
                    obtain ⟨h126, rfl, hh1, hh2⟩ := d126
                    refine step_appG elJ (.tmp 124) (.tmp 126) rfl IsVal.stb (zei e124) (zei e126) (ev := .int .i64 (k : Int)) hh2 (hP rfl) rfl rfl (by intro u hu; simp [Value.cells] at hu; subst hu; rfl) (by have := SM.out; omega) (Nat.le_trans SBs.out hJ.2.2.size) fun v' w' h1 h2 h3 => hK v' w' h2 (hJ.step h2 (.inr rfl) SG.out) ⟨h1, h3.imp id fun h => ⟨_, h, hJ.2.2.size⟩⟩
                  | 8, _, hi, hXi, hP =>
                    obtain rfl := Option.some.inj (oq8.symm.trans hi)
                    have d120 : (T.getD 120 undef) = .pointer (some ⟨C.G, 0, none⟩) := (hdep 0 _ (odt (by kernel_rfl)) oq0).2
                    have e120 := zan (by omega) d120
                    clear d120
                    refine zaj rfl ?_
                    refine zao (E := fun w' => W.grownBy w' (none)) (Φ := PhiP C.G vp hs k wn.heap.size C.b1 8) fun K hK => ?_
                    clear hdep hfree hsz hops fr oq0 oq1 oq2 oq3 oq4 oq5 oq6 oq7 oq8 oq9 oq10
                    go_simp
                    exact hK (.pointer (some ⟨C.G, 0, none⟩)) _ (zak _ _) hJ rfl
                  | 9, _, hi, hXi, hP =>
                    obtain rfl := Option.some.inj (oq9.symm.trans hi)
                    have d128 : (T.getD 128 undef) = .pointer (some ⟨C.G, 0, none⟩) := (hdep 8 _ (odt (by kernel_rfl)) oq8).2
                    have e128 := zan (by omega) d128
                    clear d128
                    refine zaj rfl ?_
                    refine zao (E := fun w' => W.grownBy w' (none)) (Φ := PhiP C.G vp hs k wn.heap.size C.b1 9) fun K hK => ?_
                    clear hdep hfree hsz hops fr oq0 oq1 oq2 oq3 oq4 oq5 oq6 oq7 oq8 oq9 oq10
                    go_simp
                    exact hK (.pointer (some ⟨C.G, 1, none⟩)) _ (zak _ _) hJ rfl
                  | i + 10, hin, hi, hXi, hP => exact absurd hin (by omega)
                case fin =>
                  intro a W X hsz hdf hJ hfree hall
                  obtain ⟨⟨l⟩, df⟩ := a
                  replace hsz : l.length = 131 := hsz
                  obtain ⟨fs, rfl⟩ := open131 hsz
                  obtain rfl : df = [] := hdf
                  have bs5 : fs 5 = .pointer (some ⟨(C.G + 1), 0, none⟩) := Option.some.inj (hfree 5 (fr 5 (by kernel_rfl)))
                  have x127 : X 7 = some (fs 127) := (hall 7 _ (by omega) oq7).1
                  have q127 : (OwnS 1 3 IsVal W C.b1 (fun _ => False) (fs 127) (hs ++ [.int .i64 (k : Int)]) ∧ ((fs 127).ownBlock = vp.ownBlock ∨ ∃ b, (fs 127).ownBlock = some b ∧ wn.heap.size ≤ b)) := (hall 7 _ (by omega) oq7).2
                  have x129 : X 9 = some (fs 129) := (hall 9 _ (by omega) oq9).1
                  have q129 : (fs 129) = .pointer (some ⟨C.G, 1, none⟩) := (hall 9 _ (by omega) oq9).2
                  clear x129
                  clear hall hfree hsz
                  rw [hops]
                  clear hops fr oq0 oq1 oq2 oq3 oq4 oq5 oq6 oq7 oq8 oq9 oq10
                  rw [bs5, q129]
                  clear bs5 q129
                  obtain ⟨t127, ht127⟩ : ∃ t, t = fs 127 := ⟨_, rfl⟩
                  rw [← ht127] at q127 x127 ⊢
                  clear ht127
                  obtain ⟨c0, c1, c2⟩ := zad hJ.2.1
                  obtain ⟨f0, f1, f2⟩ := zaq hJ.2.1
                  obtain ⟨A7, k7, rfl⟩ := q127.1.slice
                  have HJ := Lib.hid hJ
                  have Q127 := Lib.hid q127
                  clear hJ q127 x127
                  show wpListIn _ _ _ _ _ [_] _ _
                  gi_wp2
                  clear c0 c1 c2 f0 f1 f2
                  obtain ⟨W9, hW9⟩ : ∃ x, x = W.setCell ⟨C.G, 1, none⟩ (.slice A7 (hs.length + 1) k7) := ⟨_, rfl⟩
                  rw [← hW9]
                  have q := Q127.out
                  have hJ := HJ.out
                  have inv8 := Inv8.out
                  have hsl : hs.length = s.piv.length := by rw [Hhs.out, List.length_map]
                  rw [show (hs ++ [Value.int .i64 (k : Int)]).length = hs.length + 1 by simp] at q
                  have g9 : W.grownBy W9 (some C.G) := by rw [hW9]; exact zcl _ _ _ _
                  have hov := OwnS.own_lt q.1
                  have hblk : ∀ b, b < wn.heap.size → b ≠ C.G → vp.ownBlock ≠ some b → W9.heap[b]? = wn.heap[b]? := fun b h1 h2 h3 => by
                    rw [g9.block b (Nat.lt_of_lt_of_le h1 hJ.2.2.size) (fun e => h2 (by cases e; rfl))]
                    exact hJ.2.2.block b h1 (fun e => h3 e.symm) (by simp) (by simp)
                  have hsz9 : wn.heap.size ≤ W9.heap.size := Nat.le_trans hJ.2.2.size g9.size
                  have hlen : (s.piv ++ [k]).length = hs.length + 1 := by rw [List.length_append, hsl]; rfl
                  have inv9 : InvR C W9 ⟨A3, (A3 np k).natAbs, s.piv ++ [k]⟩ T rb1 cp1 A7 Pd k7 kd := by
                    refine inv8.put hsz9 (fun b h1 h2 h3 => hblk b h1 h2 (by rw [Hvp.out]; exact h3)) ?_ inv8.num ?_ (fun b h1 h2 => ?_) Ok.out
                    · rw [hlen, hW9]; exact hJ.2.1.set_ 1 _
                    · rw [hlen, List.map_append, ← Hhs.out]
                      exact q.1.grown IsVal.stb g9 (fun b e => ⟨fun e2 => by have := (hov b e2).1; cases e; omega, fun h => h⟩)
                    · rw [hlen]
                      exact own_neR q.2 h1 (by rw [Hvp.out]; exact h2)
                  refine ⟨?_, stepG C.n C.m k s r, ?_, ?_, ?_⟩
                  · rw [← Eb1.out]
                    refine Hk8.out.trans (KeepsOthers.from ⟨hsz9, fun j o hj hc => ?_⟩ _)
                    refine (hblk j (Array.getElem?_eq_some_iff.1 hj).1 (fun e => ?_) (fun e => ?_)).trans hj
                    · rw [e, show wn.heap[C.G]? = _ from RGn.out] at hj
                      cases hj
                      cases hc
                    · obtain ⟨o2, ho2, hc2⟩ := Own.out.own_cells j e
                      rw [hj] at ho2
                      cases ho2
                      rw [hc] at hc2
                      cases hc2
                  · show stepG C.n C.m k s r = runK C.n C.m A0 (k + 1)
                    have hs0 : s = runK C.n C.m A0 k := Hs.out
                    have hr0 : FirstRow s.A s.piv.length C.n k r := Hr.out
                    rw [hs0] at hr0 ⊢
                    exact (runK_some hr0).symm
                  · refine ⟨(g9.os.trans hJ.2.2.os).trans Hb8.out.os, (g9.tape.trans hJ.2.2.tape).trans Hb8.out.tape, (g9.output.trans hJ.2.2.output).trans Hb8.out.output, Nat.le_trans Hb8.out.size hsz9, fun b hb => ?_⟩
                    have h0 := E0.out
                    have h1 := Ok.out.le
                    exact (hblk b (Nat.lt_of_lt_of_le hb Hb8.out.size) (by omega) (fun e => by have := (OwnS.own_lt Own.out b e).1; omega)).trans (Hb8.out.block b hb)
                  · have es : stepG C.n C.m k s r = ⟨A3, (A3 np k).natAbs, s.piv ++ [k]⟩ := by
                      rw [stepG, ← HA2.out, ← Hnp.out, ← HA3.out, show A3 np k = A2 np k by rw [HA3.out, clrTo_np]]
                    exact ⟨T, rb1, cp1, A7, Pd, k7, kd, by dsimp only; rw [es]; exact inv9⟩
      case done =>
        rintro D s W hlD ⟨h1, h2, S, rb, cp, Pv, D', cv, cd, h3⟩ hD
        have v0 := h3.fx.v.cell 0
        simp at v0
        have H3 := Lib.hid h3
        have H2 := Lib.hid h2
        have H1 := Lib.hid h1
        have HD := Lib.hid hD
        clear h1 h2 h3 hD
        go_wp2_with fail
        have hlt := Ok.out.lt
        have hszw := Hbw5.out.size
        have hp := H3.out.others Ok.out (grownBy_putObj' W D (.deferred none)) (fun x e => by cases e; exact ⟨by rw [Eb1.out]; exact hlD, _, HD.out, rfl⟩)
        refine ⟨by simp, .inl ⟨_, _, rfl, run_takeDeferred HD.out, ?_⟩⟩
        refine ⟨.pointer (some ⟨C.G, 0, none⟩), results_slot rfl rfl, ⟨_, rfl, ?_⟩, ?_⟩
        · have h1 : s = runK C.n C.m A0 C.width := H1.out
          have hg := hp.gr Ok.out
          rw [h1, HA0.out, En.out, Em.out, Ewd.out] at hg
          exact hg
        · exact H2.out.trans (belowK_b (w := w) (Nat.le_refl _) _ D _ _ (by omega) HD.out rfl rfl)
end Go.Proofs.YtjkgdggkgljdoaaDoor
