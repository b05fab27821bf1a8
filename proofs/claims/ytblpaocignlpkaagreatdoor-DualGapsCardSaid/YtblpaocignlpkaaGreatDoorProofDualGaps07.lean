/-
  The contract of the reference's Slack.
-/
import Derived.Test.YtblpaocignlpkaaGreatDoorProofDualGaps05
import Derived.Test.YtblpaocignlpkaaGreatDoorProofDualGaps06
import Derived.Test.YtblpaocignlpkaaGreatDoorBase17
import Derived.Test.YtblpaocignlpkaaGreatDoorProofDualGaps01
import Derived.Test.YtblpaocignlpkaaGreatDoorBase12
namespace Go.Proofs.YtblpaocignlpkaaGreatDoor
open Go.RowKit
set_option linter.unusedVariables false

theorem sub_zero_iff {a b : Rat} : decide (b - a = 0) = decide (a = b) := by
  rw [Bool.eq_iff_iff, decide_eq_true_eq, decide_eq_true_eq]
  constructor
  · intro h
    have := congrArg (· + a) h
    simp only [Rat.sub_eq_add_neg, Rat.add_assoc, Rat.neg_add_cancel, Rat.add_zero, Rat.zero_add] at this
    exact this.symm
  · intro h
    rw [h, Rat.sub_eq_add_neg, Rat.add_neg_cancel]
theorem rest_dual_get {q : ProgQ} {y : List Rat} {k : Nat} {c : Rat} (hk : k < q.C.length) (hc : q.C[k]? = some c) : (restQ (dualQ q).A (dualQ q).B y)[k]? = some (dotQ (colQ q.A k) y - c) := by
  have e : (dualQ q).B = negV q.C := rfl
  rw [e, restQ_get (dualA_get hk) (negV_get hc), dotQ_neg]
  congr 1
  rw [Rat.sub_eq_add_neg, Rat.neg_neg, Rat.add_comm, Rat.sub_eq_add_neg]

set_option maxRecDepth 100000 in
set_option maxHeartbeats 1000000 in
theorem rslack_err {w : World} {vp vx vy : Value} {p : Prog} {e : Int} (hp : IsP w (Old w) vp p) (hc : ∀ w0, Below w.heap.size w w0 → Calls Tryz.prog 60 #[vp, vx, vy] w0 fun en w' => en = .returned (.int .i64 e) ∧ Below w0.heap.size w0 w') (he : e ≠ 0) :
    Calls Tryz.prog 20 #[vp, vx, vy] w fun en w' => en = .returned (.tuple #[.bool false, .int .i64 e]) ∧ Below w.heap.size w w' := by
  have Hc := Lib.hid hc
  obtain ⟨A, cA, B, cB, C, cC, rfl, _, _, _⟩ := hp
  have e0 : (e != 0) = true := bne_iff_ne.2 he
  clear hc he
  obtain ⟨w0, hw0, hb0, rP, Hz⟩ := boxes1 w #[.slice A p.A.length cA, .slice B p.B.length cB, .slice C p.C.length cC] 27
  have HB0 := Lib.hid hb0
  obtain ⟨cP0, cP1, cP2⟩ := cells3 rP
  clear rP hb0
  go_enter Tryz.func20, Tryz.ntmps20
  go_wp2_with fail
  clear hw0
  refine (Hc.out _ HB0.out).mono ?_
  rintro en w1 ⟨rfl, hb⟩
  go_wp2_with fail
  go_ret2
  exact ⟨rfl, below_step HB0.out hb⟩

set_option maxRecDepth 100000 in
set_option maxHeartbeats 8000000 in
theorem rslack_good {w : World} {vp vx vy : Value} {q : ProgQ} {x y : List Rat} (hp : IsP w (Old w) vp (rawP q)) (hx : IsV w (Old w) vx (rawV x)) (hy : IsV w (Old w) vy (rawV y)) (hg : Good q 1024)
    (hc : ∀ w0, Below w.heap.size w w0 → Calls Tryz.prog 60 #[vp, vx, vy] w0 fun en w' => en = .returned (.int .i64 0) ∧ Below w0.heap.size w0 w')
    (hl : x.length = q.C.length) (hsx : ∀ e ∈ x, Sz e 1024) (hly : y.length = q.B.length) (hsy : ∀ e ∈ y, Sz e 1024) :
    Calls Tryz.prog 20 #[vp, vx, vy] w fun en w' => en = .returned (.tuple #[.bool (slackB q.A q.B q.C x y), .int .i64 0]) ∧ Below w.heap.size w w' := by
  have HX := Lib.hid hx
  have HY := Lib.hid hy
  have HP := Lib.hid hp
  have HG := Lib.hid hg
  have Hl := Lib.hid hl
  have Hly := Lib.hid hly
  have Hc := Lib.hid hc
  have HR1 : Hid (∀ W : World, Below w.heap.size w W → Calls Tryz.prog 67 #[vp, vx] W fun e w' => (∃ v', e = .returned v' ∧ IsV w' (Old w') v' (rawV (restQ q.A q.B x))) ∧ Below W.heap.size W w') :=
    fun W hW => rrest_l (CC := rawV q.C) (IsP.stb.to hp (same_old hW)) (IsV.stb.to hx (same_old hW)) hg.rows (fun row h => (hg.cols row h).trans hl.symm) hg.szA hg.szB hsx (by rw [hl]; exact hg.nC) hg.nB
  have HR2 : Hid (∀ (W : World) (v : Value), Below w.heap.size w W → IsP W (Old W) v (rawP (dualQ q)) → Calls Tryz.prog 67 #[v, vy] W fun e w' => (∃ v', e = .returned v' ∧ IsV w' (Old w') v' (rawV (restQ (dualQ q).A (dualQ q).B y))) ∧ Below W.heap.size W w') :=
    fun W v hW hv => rrest_l (CC := rawV (dualQ q).C) hv (IsV.stb.to hy (same_old hW)) (good_dual hg).rows (fun row h => ((good_dual hg).cols row h).trans (by rw [hly]; exact negV_len _)) (good_dual hg).szA (good_dual hg).szB hsy (by rw [hly]; exact hg.nB) (good_dual hg).nB
  obtain ⟨A, cA, B, cB, C, cC, rfl, hA, hBv, hC⟩ := hp
  obtain ⟨E, e1, rfl, _⟩ := isV_len hx
  obtain ⟨F, f1, rfl, _⟩ := isV_len hy
  obtain ⟨M, hM⟩ : ∃ m, m = q.B.length := ⟨_, rfl⟩
  obtain ⟨n, hn⟩ : ∃ m, m = q.C.length := ⟨_, rfl⟩
  simp only [rawP, rawV_len, rawM_len] at HX HY HP Hc HR1 HR2 ⊢
  rw [hl, ← hn] at HX
  rw [hly, ← hM] at HY
  rw [hg.rows, ← hM, ← hn] at HP
  rw [hg.rows, hl, ← hM, ← hn] at HR1
  rw [hly, ← hM] at HR2
  rw [hg.rows, hl, hly, ← hM, ← hn] at Hc ⊢
  have hM40 : M ≤ 40 := by rw [hM]; exact hg.nB
  have hn40 : n ≤ 40 := by rw [hn]; exact hg.nC
  have HM := Lib.hid hM
  have Hn := Lib.hid hn
  clear hx hy hg hc hl hsx hly hsy hA hBv hC hM hn
  obtain ⟨w0, hw0, hb0, rP, Hz⟩ := boxes1 w #[.slice A M cA, .slice B M cB, .slice C n cC] 27
  have HB0 := Lib.hid hb0
  have RP := Lib.hid rP
  obtain ⟨cP0, cP1, cP2⟩ := cells3 rP
  clear rP hb0
  go_enter Tryz.func20, Tryz.ntmps20
  go_wp2_with fail
  clear hw0
  refine (Hc.out _ HB0.out).mono ?_
  rintro en w1 ⟨rfl, hb⟩
  have Hb1 := Lib.hid (below_step HB0.out hb)
  have RP1 := Lib.hid (RP.out.next hb)
  clear hb cP0 cP1 cP2
  obtain ⟨cP0, cP1, cP2⟩ := cells3 RP1.out
  go_wp2_with fail
  have HS : Hid (∀ W : World, Below w1.heap.size w1 W → W.cell? ⟨w.heap.size, 0, none⟩ = some (.slice A M cA) ∧ W.cell? ⟨w.heap.size, 1, none⟩ = some (.slice B M cB) ∧ W.cell? ⟨w.heap.size, 2, none⟩ = some (.slice C n cC)) := fun W hW => ⟨keep_cell hW cP0, keep_cell hW cP1, keep_cell hW cP2⟩
  have D3 : Hid (∀ W : World, Below w1.heap.size w1 W → Calls Tryz.prog 67 #[.agg #[.slice A M cA, .slice B M cB, .slice C n cC], .slice E n e1] W (fun e w' => (∃ v', e = .returned v' ∧ IsV w' (Old w') v' (rawV (restQ q.A q.B x))) ∧ Below W.heap.size W w')) := fun W hW => HR1.out _ (below_step Hb1.out (show Below w1.heap.size w1 W from (by (repeat (first | exact Below.refl _ _ | assumption | refine below_allocR ?_ _ | refine below_drewR ?_ | refine below_put3X ?_ ?_ _ _ _ | refine below_setG ?_ (by omega) | refine below_step ?_ (by assumption))); (first | done | fail))))
  go_region_held3 (fun w' => w'.cell? ⟨w.heap.size, 0, none⟩ = some (.slice A M cA) ∧ w'.cell? ⟨w.heap.size, 1, none⟩ = some (.slice B M cB) ∧ w'.cell? ⟨w.heap.size, 2, none⟩ = some (.slice C n cC))
    (exact HS.out _ (by (repeat (first | exact Below.refl _ _ | assumption | refine below_allocR ?_ _ | refine below_drewR ?_ | refine below_put3X ?_ ?_ _ _ _ | refine below_setG ?_ (by omega) | refine below_step ?_ (by assumption))); (first | done | fail)))
    (first
      | (go_at_call 67; (with_reducible refine Calls.mono (D3.out _ (by (repeat (first | exact Below.refl _ _ | assumption | refine below_allocR ?_ _ | refine below_drewR ?_ | refine below_put3X ?_ ?_ _ _ _ | refine below_setG ?_ (by omega) | refine below_step ?_ (by assumption))); (first | done | fail))) ?_); rintro e w3 ⟨⟨v3, rfl, hv3⟩, hb3⟩; have V3 := Lib.hid hv3; obtain ⟨P3, k3, rfl, _⟩ := isV_len hv3; have D4 : Hid (∀ W : World, Below w3.heap.size w3 W → Calls Tryz.prog 68 #[.agg #[.slice A M cA, .slice B M cB, .slice C n cC]] W (fun e w' => (∃ v, e = .returned v ∧ IsP w' (Old w') v (rawP (dualQ q))) ∧ Below W.heap.size W w')) := fun W hW => rof_l (IsP.stb.to HP.out (same_old (below_step Hb1.out (show Below w1.heap.size w1 W from (by (repeat (first | exact Below.refl _ _ | assumption | refine below_allocR ?_ _ | refine below_drewR ?_ | refine below_put3X ?_ ?_ _ _ _ | refine below_setG ?_ (by omega) | refine below_step ?_ (by assumption))); (first | done | fail)))))) HG.out)
      | (go_at_call 68; (with_reducible refine Calls.mono (D4.out _ (by (repeat (first | exact Below.refl _ _ | assumption | refine below_allocR ?_ _ | refine below_drewR ?_ | refine below_put3X ?_ ?_ _ _ _ | refine below_setG ?_ (by omega) | refine below_step ?_ (by assumption))); (first | done | fail))) ?_); rintro e w4 ⟨⟨v4, rfl, hv4⟩, hb4⟩; have V4 := Lib.hid hv4; have D5 : Hid (∀ W : World, Below w4.heap.size w4 W → Calls Tryz.prog 67 #[v4, .slice F M f1] W (fun e w' => (∃ v', e = .returned v' ∧ IsV w' (Old w') v' (rawV (restQ (dualQ q).A (dualQ q).B y))) ∧ Below W.heap.size W w')) := fun W hW => HR2.out _ _ (below_step Hb1.out (show Below w1.heap.size w1 W from (by (repeat (first | exact Below.refl _ _ | assumption | refine below_allocR ?_ _ | refine below_drewR ?_ | refine below_put3X ?_ ?_ _ _ _ | refine below_setG ?_ (by omega) | refine below_step ?_ (by assumption))); (first | done | fail)))) (IsP.stb.next V4.out hW))
      | (go_at_call 67; (with_reducible refine Calls.mono (D5.out _ (by (repeat (first | exact Below.refl _ _ | assumption | refine below_allocR ?_ _ | refine below_drewR ?_ | refine below_put3X ?_ ?_ _ _ _ | refine below_setG ?_ (by omega) | refine below_step ?_ (by assumption))); (first | done | fail))) ?_); rintro e w5 ⟨⟨v5, rfl, hv5⟩, hb5⟩; have V5 := Lib.hid hv5; obtain ⟨P5, k5, rfl, _⟩ := isV_len hv5))
  have R5 := Lib.hid (IsV.stb.next V3.out (show Below w3.heap.size w3 w5 from (by (repeat (first | exact Below.refl _ _ | assumption | refine below_allocR ?_ _ | refine below_drewR ?_ | refine below_put3X ?_ ?_ _ _ _ | refine below_setG ?_ (by omega) | refine below_step ?_ (by assumption))); (first | done | fail))))
  have hB5 : Below w1.heap.size w1 w5 := (by (repeat (first | exact Below.refl _ _ | assumption | refine below_allocR ?_ _ | refine below_drewR ?_ | refine below_put3X ?_ ?_ _ _ _ | refine below_setG ?_ (by omega) | refine below_step ?_ (by assumption))); (first | done | fail))
  have HW5 := Lib.hid (below_step Hb1.out hB5)
  have C5 := Lib.hid V5.out
  have l3 : (rawV (restQ q.A q.B x)).length = M := by rw [rawV_len, restQ_len HG.out.rows, ← HM.out]
  have l5 : (rawV (restQ (dualQ q).A (dualQ q).B y)).length = n := by rw [rawV_len, restQ_len (good_dual HG.out).rows, Hn.out]; exact negV_len _
  rw [l3] at R5 ⊢
  rw [l5] at C5 ⊢
  have L3 := Lib.hid l3
  have L5 := Lib.hid l5
  clear HS D3 D4 D5 hv3 hv4 hv5 V3 V4 V5 hb3 hb4 hb5 hB5 cP0 cP1 cP2 l3 l5
  go_wp2_with fail
  go_loopw [11] (fun i wr => ∃ j : Nat, j ≤ M ∧ i = .int .i64 (j : Int) ∧ Below w5.heap.size w5 wr ∧ Hid (∀ i, i < j → okRow q.A q.B x y i = true)) (fun i _ => M - (intOf i).toNat)
  case atStart => exact ⟨0, Nat.zero_le _, rfl, Below.refl _ _, fun i hi => by omega⟩
  case round =>
    obtain ⟨j, hj, rfl, hbw, hrel⟩ := hrel
    have Hbw := Lib.hid hbw
    have Hrel := Lib.hid hrel.out
    have HW := Lib.hid (below_step HW5.out hbw)
    clear hrel
    rcases Nat.lt_or_ge j M with hlt | hge
    · obtain ⟨row, hr, _⟩ := rawM_get (m := q.A) (j := j) (by rw [HG.out.rows, ← HM.out]; exact hlt)
      obtain ⟨b, hb, _⟩ := rawV_get (l := q.B) (j := j) (by rw [← HM.out]; exact hlt)
      obtain ⟨z, hz, hzr⟩ := rawV_get (l := y) (j := j) (by rw [Hly.out, ← HM.out]; exact hlt)
      have hrs : (rawV (restQ q.A q.B x))[j]? = some (raw (b - dotQ row x)) := by unfold rawV; rw [List.getElem?_map, restQ_get hr hb]; rfl
      obtain ⟨d, hd⟩ : ∃ d, d = b - dotQ row x := ⟨_, rfl⟩
      rw [← hd] at hrs
      obtain ⟨b1, o1, X1, X2, X3, X4, rfl, _, helb, c0, c1, c2⟩ := isV_get (IsV.stb.to R5.out (same_old hbw)) hrs
      obtain ⟨b3, o3, Z1, Z2, Z3, Z4, rfl, _, helz, z0, z1, z2⟩ := isV_get (IsV.stb.to HY.out (same_old HW.out)) hzr
      obtain ⟨bb0, hbb0⟩ : ∃ s, s = (raw d).neg := ⟨_, rfl⟩
      obtain ⟨bb1, hbb1⟩ : ∃ s, s = (raw d).num.length := ⟨_, rfl⟩
      obtain ⟨bb2, hbb2⟩ : ∃ s, s = (raw d).den.length := ⟨_, rfl⟩
      rw [← hbb0] at c0
      rw [← hbb1] at c1
      rw [← hbb2] at c2
      rw [← hbb0, ← hbb1, ← hbb2] at helb
      clear hbb0 hbb1 hbb2
      obtain ⟨zz0, hzz0⟩ : ∃ s, s = (raw z).neg := ⟨_, rfl⟩
      obtain ⟨zz1, hzz1⟩ : ∃ s, s = (raw z).num.length := ⟨_, rfl⟩
      obtain ⟨zz2, hzz2⟩ : ∃ s, s = (raw z).den.length := ⟨_, rfl⟩
      rw [← hzz0] at z0
      rw [← hzz1] at z1
      rw [← hzz2] at z2
      rw [← hzz0, ← hzz1, ← hzz2] at helz
      clear hzz0 hzz1 hzz2
      have QD := Lib.hid (isR_isQ helb)
      have QZ := Lib.hid (isR_isQ helz)
      have Hok : Hid (okRow q.A q.B x y j = (decide (z = 0) || decide (d = 0))) := by rw [Hid, okRow, getD_some hz, getD_some hb, getD_row hr, hd, sub_zero_iff]
      obtain ⟨v1, hv1⟩ : ∃ v, v = decide (z = 0) := ⟨_, rfl⟩
      obtain ⟨v2, hv2⟩ : ∃ v, v = decide (d = 0) := ⟨_, rfl⟩
      rw [← hv1, ← hv2] at Hok
      have Hv1 := Lib.hid hv1
      have Hv2 := Lib.hid hv2
      have cr := ratCells
      clear hr hb hz hrs hzr helb helz hd hv1 hv2 hbw
      cases v2 with
      | true =>
        go_wp2_with fail
        refine (rzero_q QD.out).mono ?_
        rw [← Hv2.out]
        rintro e w6 ⟨rfl, hb6⟩
        have HB6 := Lib.hid (below_step Hbw.out hb6)
        replace z0 := keep_cell hb6 z0
        replace z1 := keep_cell hb6 z1
        replace z2 := keep_cell hb6 z2
        have QZ6 := Lib.hid (IsQ.stb.next QZ.out hb6)
        clear hb6 c0 c1 c2
        go_wp2_with fail
        go_roundw
        case rel =>
          refine ⟨j + 1, by omega, by go_num, HB6.out, fun i hi => ?_⟩
          rcases Nat.lt_or_ge i j with h | h
          · exact Hrel.out i h
          · obtain rfl : i = j := by omega
            rw [Hok.out, Bool.or_true]
        case measure => simp [intOf]; omega
      | false =>
        cases v1 with
        | true =>
          go_wp2_with fail
          refine (rzero_q QD.out).mono ?_
          rw [← Hv2.out]
          rintro e w6 ⟨rfl, hb6⟩
          have HB6 := Lib.hid (below_step Hbw.out hb6)
          replace z0 := keep_cell hb6 z0
          replace z1 := keep_cell hb6 z1
          replace z2 := keep_cell hb6 z2
          have QZ6 := Lib.hid (IsQ.stb.next QZ.out hb6)
          clear hb6 c0 c1 c2
          go_wp2_with fail
          refine (rzero_q QZ6.out).mono ?_
          rw [← Hv1.out]
          rintro e w7 ⟨rfl, hb7⟩
          have HB7 := Lib.hid (below_step HB6.out hb7)
          clear hb7
          go_wp2_with fail
          go_roundw
          case rel =>
            refine ⟨j + 1, by omega, by go_num, HB7.out, fun i hi => ?_⟩
            rcases Nat.lt_or_ge i j with h | h
            · exact Hrel.out i h
            · obtain rfl : i = j := by omega
              rw [Hok.out]; rfl
          case measure => simp [intOf]; omega
        | false =>
          go_wp2_with fail
          refine (rzero_q QD.out).mono ?_
          rw [← Hv2.out]
          rintro e w6 ⟨rfl, hb6⟩
          have HB6 := Lib.hid (below_step Hbw.out hb6)
          replace z0 := keep_cell hb6 z0
          replace z1 := keep_cell hb6 z1
          replace z2 := keep_cell hb6 z2
          have QZ6 := Lib.hid (IsQ.stb.next QZ.out hb6)
          clear hb6 c0 c1 c2
          go_wp2_with fail
          refine (rzero_q QZ6.out).mono ?_
          rw [← Hv1.out]
          rintro e w7 ⟨rfl, hb7⟩
          have HB7 := Lib.hid (below_step HB6.out hb7)
          clear hb7
          go_wp2_with fail
          have Hr : Hid (slackB q.A q.B q.C x y = false) := by rw [Hid, slackB_eq, all_range_not (k := j) (by rw [← HM.out]; exact hlt) Hok.out]; rfl
          go_ret2
          exact ⟨by rw [Hr.out]; rfl, below_step HW5.out HB7.out⟩
    · obtain rfl : j = M := by omega
      have Hbw0 := Lib.hid Hbw.out
      have Hrows : Hid ((List.range q.B.length).all (okRow q.A q.B x y) = true) := all_range_of (by rw [← HM.out]; exact Hrel.out)
      obtain ⟨wo, hwo⟩ : ∃ x, x = wr := ⟨_, rfl⟩
      subst hwo
      clear hbw Hrel
      go_wp2_with fail
      go_loopw [12] (fun i wr => ∃ k : Nat, k ≤ n ∧ i = .int .i64 (k : Int) ∧ Below wo.heap.size wo wr ∧ Hid (∀ i, i < k → okCol q.A q.C x y i = true)) (fun i _ => n - (intOf i).toNat)
      case atStart => exact ⟨0, Nat.zero_le _, rfl, Below.refl _ _, fun i hi => by omega⟩
      case round =>
        obtain ⟨k, hk, rfl, hbw2, hrel⟩ := hrel
        have Hbw := Lib.hid hbw2
        have Hrel := Lib.hid hrel.out
        have HW2 := Lib.hid (below_step HW.out hbw2)
        clear hrel
        rcases Nat.lt_or_ge k n with hlt | hge
        · obtain ⟨c, hc, _⟩ := rawV_get (l := q.C) (j := k) (by rw [← Hn.out]; exact hlt)
          obtain ⟨z, hz, hzr⟩ := rawV_get (l := x) (j := k) (by rw [Hl.out, ← Hn.out]; exact hlt)
          have hrs : (rawV (restQ (dualQ q).A (dualQ q).B y))[k]? = some (raw (dotQ (colQ q.A k) y - c)) := by unfold rawV; rw [List.getElem?_map, rest_dual_get (by rw [← Hn.out]; exact hlt) hc]; rfl
          obtain ⟨d, hd⟩ : ∃ d, d = dotQ (colQ q.A k) y - c := ⟨_, rfl⟩
          rw [← hd] at hrs
          obtain ⟨b1, o1, X1, X2, X3, X4, rfl, _, helb, c0, c1, c2⟩ := isV_get (IsV.stb.to C5.out (same_old (below_step Hbw0.out hbw2))) hrs
          obtain ⟨b3, o3, Z1, Z2, Z3, Z4, rfl, _, helz, z0, z1, z2⟩ := isV_get (IsV.stb.to HX.out (same_old HW2.out)) hzr
          obtain ⟨bb0, hbb0⟩ : ∃ s, s = (raw d).neg := ⟨_, rfl⟩
          obtain ⟨bb1, hbb1⟩ : ∃ s, s = (raw d).num.length := ⟨_, rfl⟩
          obtain ⟨bb2, hbb2⟩ : ∃ s, s = (raw d).den.length := ⟨_, rfl⟩
          rw [← hbb0] at c0
          rw [← hbb1] at c1
          rw [← hbb2] at c2
          rw [← hbb0, ← hbb1, ← hbb2] at helb
          clear hbb0 hbb1 hbb2
          obtain ⟨zz0, hzz0⟩ : ∃ s, s = (raw z).neg := ⟨_, rfl⟩
          obtain ⟨zz1, hzz1⟩ : ∃ s, s = (raw z).num.length := ⟨_, rfl⟩
          obtain ⟨zz2, hzz2⟩ : ∃ s, s = (raw z).den.length := ⟨_, rfl⟩
          rw [← hzz0] at z0
          rw [← hzz1] at z1
          rw [← hzz2] at z2
          rw [← hzz0, ← hzz1, ← hzz2] at helz
          clear hzz0 hzz1 hzz2
          have QD := Lib.hid (isR_isQ helb)
          have QZ := Lib.hid (isR_isQ helz)
          have Hok : Hid (okCol q.A q.C x y k = (decide (z = 0) || decide (d = 0))) := by rw [Hid, okCol, getD_some hz, getD_some hc, hd, sub_zero_iff]; congr 1; exact decide_eq_decide.2 eq_comm
          obtain ⟨v1, hv1⟩ : ∃ v, v = decide (z = 0) := ⟨_, rfl⟩
          obtain ⟨v2, hv2⟩ : ∃ v, v = decide (d = 0) := ⟨_, rfl⟩
          rw [← hv1, ← hv2] at Hok
          have Hv1 := Lib.hid hv1
          have Hv2 := Lib.hid hv2
          have cr := ratCells
          clear hc hz hrs hzr helb helz hd hv1 hv2 hbw2
          cases v2 with
          | true =>
            go_wp2_with fail
            refine (rzero_q QD.out).mono ?_
            rw [← Hv2.out]
            rintro e w6 ⟨rfl, hb6⟩
            have HB6 := Lib.hid (below_step Hbw.out hb6)
            replace z0 := keep_cell hb6 z0
            replace z1 := keep_cell hb6 z1
            replace z2 := keep_cell hb6 z2
            have QZ6 := Lib.hid (IsQ.stb.next QZ.out hb6)
            clear hb6 c0 c1 c2
            go_wp2_with fail
            go_roundw
            case rel =>
              refine ⟨k + 1, by omega, by go_num, HB6.out, fun i hi => ?_⟩
              rcases Nat.lt_or_ge i k with h | h
              · exact Hrel.out i h
              · obtain rfl : i = k := by omega
                rw [Hok.out, Bool.or_true]
            case measure => simp [intOf]; omega
          | false =>
            cases v1 with
            | true =>
              go_wp2_with fail
              refine (rzero_q QD.out).mono ?_
              rw [← Hv2.out]
              rintro e w6 ⟨rfl, hb6⟩
              have HB6 := Lib.hid (below_step Hbw.out hb6)
              replace z0 := keep_cell hb6 z0
              replace z1 := keep_cell hb6 z1
              replace z2 := keep_cell hb6 z2
              have QZ6 := Lib.hid (IsQ.stb.next QZ.out hb6)
              clear hb6 c0 c1 c2
              go_wp2_with fail
              refine (rzero_q QZ6.out).mono ?_
              rw [← Hv1.out]
              rintro e w7 ⟨rfl, hb7⟩
              have HB7 := Lib.hid (below_step HB6.out hb7)
              clear hb7
              go_wp2_with fail
              go_roundw
              case rel =>
                refine ⟨k + 1, by omega, by go_num, HB7.out, fun i hi => ?_⟩
                rcases Nat.lt_or_ge i k with h | h
                · exact Hrel.out i h
                · obtain rfl : i = k := by omega
                  rw [Hok.out]; rfl
              case measure => simp [intOf]; omega
            | false =>
              go_wp2_with fail
              refine (rzero_q QD.out).mono ?_
              rw [← Hv2.out]
              rintro e w6 ⟨rfl, hb6⟩
              have HB6 := Lib.hid (below_step Hbw.out hb6)
              replace z0 := keep_cell hb6 z0
              replace z1 := keep_cell hb6 z1
              replace z2 := keep_cell hb6 z2
              have QZ6 := Lib.hid (IsQ.stb.next QZ.out hb6)
              clear hb6 c0 c1 c2
              go_wp2_with fail
              refine (rzero_q QZ6.out).mono ?_
              rw [← Hv1.out]
              rintro e w7 ⟨rfl, hb7⟩
              have HB7 := Lib.hid (below_step HB6.out hb7)
              clear hb7
              go_wp2_with fail
              have Hr : Hid (slackB q.A q.B q.C x y = false) := by rw [Hid, slackB_eq, all_range_not (n := q.C.length) (k := k) (by rw [← Hn.out]; exact hlt) Hok.out, Bool.and_false]
              go_ret2
              exact ⟨by rw [Hr.out]; rfl, below_step HW.out HB7.out⟩
        · obtain rfl : k = n := by omega
          have Hr : Hid (slackB q.A q.B q.C x y = true) := by rw [Hid, slackB_eq, Hrows.out, all_range_of (by rw [← Hn.out]; exact Hrel.out)]; rfl
          clear hbw2
          go_wp2_with fail
          go_ret2
          exact ⟨by rw [Hr.out]; rfl, HW2.out⟩
end Go.Proofs.YtblpaocignlpkaaGreatDoor
/-
  The contract of the reference's Gap.
-/
namespace Go.Proofs.YtblpaocignlpkaaGreatDoor
open Go.RowKit
set_option linter.unusedVariables false

set_option maxRecDepth 100000 in
set_option maxHeartbeats 1000000 in
theorem rgap_err {w : World} {vp vx vy : Value} {p : Prog} {e : Int} (hp : IsP w (Old w) vp p) (hc : ∀ w0, Below w.heap.size w w0 → Calls Tryz.prog 60 #[vp, vx, vy] w0 fun en w' => en = .returned (.int .i64 e) ∧ Below w0.heap.size w0 w') (he : e ≠ 0) :
    Calls Tryz.prog 18 #[vp, vx, vy] w fun en w' => en = .returned (.tuple #[.agg #[.bool false, .slice none 0 0, .slice none 0 0], .int .i64 e]) ∧ Below w.heap.size w w' := by
  have Hc := Lib.hid hc
  obtain ⟨A, cA, B, cB, C, cC, rfl, _, _, _⟩ := hp
  have e0 : (e != 0) = true := bne_iff_ne.2 he
  clear hc he
  obtain ⟨w0, hw0, hb0, rP, rZ, Hz⟩ := boxes2 w #[.slice A p.A.length cA, .slice B p.B.length cB, .slice C p.C.length cC] #[.bool false, .slice none 0 0, .slice none 0 0] 27 31
  have HB0 := Lib.hid hb0
  have RZ := Lib.hid rZ
  obtain ⟨cP0, cP1, cP2⟩ := cells3 rP
  clear rP rZ hb0
  go_enter Tryz.func18, Tryz.ntmps18
  go_wp2_with fail
  clear hw0
  refine (Hc.out _ HB0.out).mono ?_
  rintro en w1 ⟨rfl, hb⟩
  have Hb1 := Lib.hid (below_step HB0.out hb)
  have RZ1 := Lib.hid (RZ.out.next hb)
  obtain ⟨d0, d1, d2⟩ := cells3 RZ1.out
  obtain ⟨f0, f1, f2⟩ := free3 RZ1.out
  clear hb
  go_wp2_with fail
  refine bodyPost_ret (results_rat2 rfl rfl (Row.put3 RZ1.out _ _ _)) rfl ?_
  exact ⟨rfl, below_put3 Hb1.out (by omega) _ _ _⟩

set_option maxRecDepth 100000 in
set_option maxHeartbeats 4000000 in
theorem rgap_good {w : World} {vp vx vy : Value} {q : ProgQ} {x y : List Rat} {d : Rat} (hp : IsP w (Old w) vp (rawP q)) (hx : IsV w (Old w) vx (rawV x)) (hy : IsV w (Old w) vy (rawV y)) (hg : Good q 1024)
    (hc : ∀ w0, Below w.heap.size w w0 → Calls Tryz.prog 60 #[vp, vx, vy] w0 fun en w' => en = .returned (.int .i64 0) ∧ Below w0.heap.size w0 w')
    (hl : x.length = q.C.length) (hsx : ∀ e ∈ x, Sz e 1024) (hly : y.length = q.B.length) (hsy : ∀ e ∈ y, Sz e 1024) (hd : d = dotQ q.B y - dotQ q.C x) :
    Calls Tryz.prog 18 #[vp, vx, vy] w fun en w' => (∃ v, en = .returned (.tuple #[v, .int .i64 (gapE d)]) ∧ IsR w' (Old w') v (gapR d)) ∧ Below w.heap.size w w' := by
  have HX := Lib.hid hx
  have HY := Lib.hid hy
  have HG := Lib.hid hg
  have Hl := Lib.hid hl
  have Hsx := Lib.hid hsx
  have Hly := Lib.hid hly
  have Hsy := Lib.hid hsy
  have Hc := Lib.hid hc
  obtain ⟨A, cA, B, cB, C, cC, rfl, _, hBv, hC⟩ := hp
  obtain ⟨E, e1, rfl, _⟩ := isV_len hx
  obtain ⟨F, f1, rfl, _⟩ := isV_len hy
  simp only [rawP, rawV_len, rawM_len] at hBv hC HX HY Hc ⊢
  have HBv := Lib.hid hBv
  have HC := Lib.hid hC
  obtain ⟨p1, hp1⟩ : ∃ r, r = dotQ q.B y := ⟨_, rfl⟩
  obtain ⟨p2, hp2⟩ : ∃ r, r = dotQ q.C x := ⟨_, rfl⟩
  obtain ⟨n2, hn2⟩ : ∃ r, r = -p2 := ⟨_, rfl⟩
  rw [← hp1, ← hp2, Rat.sub_eq_add_neg, ← hn2] at hd
  have Hp1 := Lib.hid hp1
  have Hp2 := Lib.hid hp2
  have Hn2 := Lib.hid hn2
  have Hd := Lib.hid hd
  have Hs1 : Hid (Sz p1 100000) := by rw [Hid, hp1]; exact dotQ_sz2 hg.szB hsy hg.nB
  have Hs2 : Hid (Sz n2 100000) := by rw [Hid, hn2, hp2]; exact (dotQ_sz2 hg.szC hsx hg.nC).neg
  clear hx hy hg hc hl hsx hly hsy hBv hC hp1 hp2 hn2 hd
  obtain ⟨w0, hw0, hb0, rP, rZ, Hz⟩ := boxes2 w #[.slice A q.A.length cA, .slice B q.B.length cB, .slice C q.C.length cC] #[.bool false, .slice none 0 0, .slice none 0 0] 27 31
  have HB0 := Lib.hid hb0
  have RP := Lib.hid rP
  have RZ := Lib.hid rZ
  obtain ⟨cP0, cP1, cP2⟩ := cells3 rP
  clear rP rZ hb0
  go_enter Tryz.func18, Tryz.ntmps18
  go_wp2_with fail
  clear hw0
  refine (Hc.out _ HB0.out).mono ?_
  rintro en w1 ⟨rfl, hb⟩
  have Hb1 := Lib.hid (below_step HB0.out hb)
  have RP1 := Lib.hid (RP.out.next hb)
  have RZ1 := Lib.hid (RZ.out.next hb)
  have QB := Lib.hid (IsV.stb.to HBv.out (same_old Hb1.out))
  have QC := Lib.hid (IsV.stb.to HC.out (same_old Hb1.out))
  have QX := Lib.hid (IsV.stb.to HX.out (same_old Hb1.out))
  have QY := Lib.hid (IsV.stb.to HY.out (same_old Hb1.out))
  clear hb cP0 cP1 cP2
  obtain ⟨cP0, cP1, cP2⟩ := cells3 RP1.out
  have hg1 : w.heap.size + 1 < w1.heap.size := RZ1.out.lt
  go_wp2_with fail
  have HS : Hid (∀ W : World, Below w1.heap.size w1 W → W.cell? ⟨w.heap.size, 1, none⟩ = some (.slice B q.B.length cB) ∧ W.cell? ⟨w.heap.size, 2, none⟩ = some (.slice C q.C.length cC)) := fun W hW => ⟨keep_cell hW cP1, keep_cell hW cP2⟩
  have D3 : Hid (∀ W : World, Below w1.heap.size w1 W → Calls Tryz.prog 62 #[.slice B q.B.length cB, .slice F y.length f1] W (RetQ W p1)) := fun W hW => by rw [Hp1.out]; exact product_q (M := q.B.length) (IsV.stb.next QB.out hW) (IsV.stb.next QY.out hW) rfl Hly.out HG.out.nB HG.out.szB Hsy.out
  go_region_held3 (fun w' => w'.cell? ⟨w.heap.size, 1, none⟩ = some (.slice B q.B.length cB) ∧ w'.cell? ⟨w.heap.size, 2, none⟩ = some (.slice C q.C.length cC))
    (first | exact HS.out _ (by (repeat (first | exact Below.refl _ _ | assumption | refine below_allocR ?_ _ | refine below_drewR ?_ | refine below_put3X ?_ ?_ _ _ _ | refine below_setG ?_ (by omega) | refine below_step ?_ (by assumption))); (first | done | fail)) | exact ⟨keep_put3 (HS.out _ (by (repeat (first | exact Below.refl _ _ | assumption | refine below_allocR ?_ _ | refine below_drewR ?_ | refine below_put3X ?_ ?_ _ _ _ | refine below_setG ?_ (by omega) | refine below_step ?_ (by assumption))); (first | done | fail))).1 (by omega), keep_put3 (HS.out _ (by (repeat (first | exact Below.refl _ _ | assumption | refine below_allocR ?_ _ | refine below_drewR ?_ | refine below_put3X ?_ ?_ _ _ _ | refine below_setG ?_ (by omega) | refine below_step ?_ (by assumption))); (first | done | fail))).2 (by omega)⟩)
    (first
      | (go_at_call 62; (with_reducible refine Calls.mono (D3.out _ (by (repeat (first | exact Below.refl _ _ | assumption | refine below_allocR ?_ _ | refine below_drewR ?_ | refine below_put3X ?_ ?_ _ _ _ | refine below_setG ?_ (by omega) | refine below_step ?_ (by assumption))); (first | done | fail))) ?_); rintro e w3 ⟨⟨v3, rfl, hv3⟩, hb3⟩; have V3 := Lib.hid (IsQ.stb.old hv3); obtain ⟨s3, P3, k3, O3, l3, rfl, _, _, _⟩ := isQ_open hv3; have D4 : Hid (∀ W : World, Below w3.heap.size w3 W → Calls Tryz.prog 62 #[.slice C q.C.length cC, .slice E x.length e1] W (RetQ W p2)) := fun W hW => by rw [Hp2.out]; exact product_q (M := q.C.length) (IsV.stb.next QC.out (by (repeat (first | exact Below.refl _ _ | assumption | refine below_allocR ?_ _ | refine below_drewR ?_ | refine below_put3X ?_ ?_ _ _ _ | refine below_setG ?_ (by omega) | refine below_step ?_ (by assumption))); (first | done | fail))) (IsV.stb.next QX.out (by (repeat (first | exact Below.refl _ _ | assumption | refine below_allocR ?_ _ | refine below_drewR ?_ | refine below_put3X ?_ ?_ _ _ _ | refine below_setG ?_ (by omega) | refine below_step ?_ (by assumption))); (first | done | fail))) rfl Hl.out HG.out.nC HG.out.szC Hsx.out)
      | (go_at_call 62; (with_reducible refine Calls.mono (D4.out _ (by (repeat (first | exact Below.refl _ _ | assumption | refine below_allocR ?_ _ | refine below_drewR ?_ | refine below_put3X ?_ ?_ _ _ _ | refine below_setG ?_ (by omega) | refine below_step ?_ (by assumption))); (first | done | fail))) ?_); rintro e w4 ⟨⟨v4, rfl, hv4⟩, hb4⟩; have V4 := Lib.hid (IsQ.stb.old hv4); obtain ⟨s4, P4, k4, O4, l4, rfl, _, _, _⟩ := isQ_open hv4; have D5 : Hid (∀ W : World, Below w4.heap.size w4 W → Calls Tryz.prog 63 #[.agg #[.bool s4, .slice P4 (lim p2.num.natAbs).length k4, .slice O4 (lim p2.den).length l4]] W (RetS (Old W) W n2)) := fun W hW => rneg_s (IsQ.stb.next V4.out hW) (fun b h => h) Hn2.out)
      | (go_at_call 63; (with_reducible refine Calls.mono (D5.out _ (by (repeat (first | exact Below.refl _ _ | assumption | refine below_allocR ?_ _ | refine below_drewR ?_ | refine below_put3X ?_ ?_ _ _ _ | refine below_setG ?_ (by omega) | refine below_step ?_ (by assumption))); (first | done | fail))) ?_); rintro e w5 ⟨⟨v5, rfl, hv5⟩, hb5⟩; have V5 := Lib.hid (isQ_oldW hv5 hb5); obtain ⟨s5, P5, k5, O5, l5, rfl, _, _, _⟩ := isQ_open hv5; have D6 : Hid (∀ W : World, Below w5.heap.size w5 W → Calls Tryz.prog 42 #[.agg #[.bool s3, .slice P3 (lim p1.num.natAbs).length k3, .slice O3 (lim p1.den).length l3], .agg #[.bool s5, .slice P5 (lim n2.num.natAbs).length k5, .slice O5 (lim n2.den).length l5]] W (RetQ W d)) := fun W hW => raddq (IsQ.stb.next V3.out (by (repeat (first | exact Below.refl _ _ | assumption | refine below_allocR ?_ _ | refine below_drewR ?_ | refine below_put3X ?_ ?_ _ _ _ | refine below_setG ?_ (by omega) | refine below_step ?_ (by assumption))); (first | done | fail))) (IsQ.stb.next V5.out (by (repeat (first | exact Below.refl _ _ | assumption | refine below_allocR ?_ _ | refine below_drewR ?_ | refine below_put3X ?_ ?_ _ _ _ | refine below_setG ?_ (by omega) | refine below_step ?_ (by assumption))); (first | done | fail))) Hs1.out Hs2.out Hd.out)
      | (go_at_call 42; (with_reducible refine Calls.mono (D6.out _ (by (repeat (first | exact Below.refl _ _ | assumption | refine below_allocR ?_ _ | refine below_drewR ?_ | refine below_put3X ?_ ?_ _ _ _ | refine below_setG ?_ (by omega) | refine below_step ?_ (by assumption))); (first | done | fail))) ?_); rintro e w6 ⟨⟨v6, rfl, hv6⟩, hb6⟩; have V6 := Lib.hid (IsQ.stb.old hv6); obtain ⟨s6, P6, k6, O6, l6, rfl, _, _, _⟩ := isQ_open hv6; have D7 : Hid (∀ W : World, Below w6.heap.size w6 W → Calls Tryz.prog 61 #[.agg #[.bool s6, .slice P6 (lim d.num.natAbs).length k6, .slice O6 (lim d.den).length l6]] W (fun e w' => (∃ v', e = .returned (.tuple #[v', .int .i64 (gapE d)]) ∧ IsR w' (New W.heap.size w') v' (gapR d)) ∧ Below W.heap.size W w')) := fun W hW => rfits_q (IsQ.stb.next V6.out hW))
      | (go_at_call 61; (with_reducible refine Calls.mono (D7.out _ (by (repeat (first | exact Below.refl _ _ | assumption | refine below_allocR ?_ _ | refine below_drewR ?_ | refine below_put3X ?_ ?_ _ _ _ | refine below_setG ?_ (by omega) | refine below_step ?_ (by assumption))); (first | done | fail))) ?_); rintro e w7 ⟨⟨v7, rfl, hv7⟩, hb7⟩; have V7 := Lib.hid hv7; obtain ⟨A7, a7, B7, b7, rfl, _, _⟩ := hv7; have hB7 : Below w1.heap.size w1 w7 := (by (repeat (first | exact Below.refl _ _ | assumption | refine below_allocR ?_ _ | refine below_drewR ?_ | refine below_put3X ?_ ?_ _ _ _ | refine below_setG ?_ (by omega) | refine below_step ?_ (by assumption))); (first | done | fail)); have RZ7 := Lib.hid (RZ1.out.next hB7); obtain ⟨d0, d1, d2⟩ := cells3 RZ7.out; obtain ⟨f0, f1', f2⟩ := free3 RZ7.out; have hs7 := hB7.size; have hs6 : w1.heap.size ≤ w6.heap.size := Below.size (w := w1) (by (repeat (first | exact Below.refl _ _ | assumption | refine below_allocR ?_ _ | refine below_drewR ?_ | refine below_put3X ?_ ?_ _ _ _ | refine below_setG ?_ (by omega) | refine below_step ?_ (by assumption))); (first | done | fail))))
  all_goals
    go_wp2_with fail
    refine bodyPost_ret (results_rat2 rfl rfl (Row.put3 RZ7.out _ _ _)) rfl ?_
    exact ⟨⟨_, rfl, IsR.stb.to V7.out (same_put3 fun b hb => ⟨by have := hb.1; omega, by show b < _; rw [size_put3]; exact hb.2⟩)⟩, below_put3 (below_step Hb1.out hB7) (by omega) _ _ _⟩
end Go.Proofs.YtblpaocignlpkaaGreatDoor
/-
  The walk of the law DualGaps.
-/
namespace Go.Proofs.YtblpaocignlpkaaGreatDoor
open Go.RowKit
set_option linter.unusedVariables false

/-- What a function that returns a number and an error answers in every later world. -/
def GapC (w : World) (f : FuncId) (args : Array Value) (g : Raw) (e : Int) : Prop := ∀ W, Below w.heap.size w W → Calls Tryz.prog f args W fun en w' => (∃ v, en = .returned (.tuple #[v, .int .i64 e]) ∧ IsR w' (Old w') v g) ∧ Below W.heap.size W w'
def SlackC (w : World) (f : FuncId) (args : Array Value) (b : Bool) (e : Int) : Prop := ∀ W, Below w.heap.size w W → Calls Tryz.prog f args W fun en w' => en = .returned (.tuple #[.bool b, .int .i64 e]) ∧ Below W.heap.size W w'

set_option maxRecDepth 100000 in
set_option maxHeartbeats 8000000 in
theorem law_gaps_of {w : World} {vp vx vy : Value} {p : Prog} {x y : List Raw} {g : Raw} {e1 e2 : Int} {s : Bool} (hp : IsP w (Old w) vp p) (hx : IsV w (Old w) vx x) (hy : IsV w (Old w) vy y) (hB : Bru w)
    (h1 : GapC w 17 #[vp, vx, vy] g e1) (h2 : GapC w 18 #[vp, vx, vy] g e1) (h3 : SlackC w 19 #[vp, vx, vy] s e2) (h4 : SlackC w 20 #[vp, vx, vy] s e2) :
    Calls Tryz.prog 4 #[vp, vx, vy] w fun en w' => en = .returned (.bool true) ∧ Below w.heap.size w w' := by
  have HP := Lib.hid hp
  have HX := Lib.hid hx
  have HY := Lib.hid hy
  have HB := Lib.hid hB
  have C1 := Lib.hid h1
  have C2 := Lib.hid h2
  have C3 := Lib.hid h3
  have C4 := Lib.hid h4
  obtain ⟨A, cA, B, cB, C, cC, rfl, _, _, _⟩ := hp
  obtain ⟨X, cX, rfl, _⟩ := isV_len hx
  obtain ⟨Y, cY, rfl, _⟩ := isV_len hy
  obtain ⟨lx, hlx⟩ : ∃ n, n = x.length := ⟨_, rfl⟩
  obtain ⟨ly, hly⟩ : ∃ n, n = y.length := ⟨_, rfl⟩
  rw [← hlx] at HX C1 C2 C3 C4 ⊢
  rw [← hly] at HY C1 C2 C3 C4 ⊢
  clear h1 h2 h3 h4 hx hy hB hlx hly
  obtain ⟨w0, hw0, hb0, rP, Hz⟩ := boxes1 w #[.slice A p.A.length cA, .slice B p.B.length cB, .slice C p.C.length cC] 27
  obtain ⟨cP0, cP1, cP2⟩ := cells3 rP
  have B0 := Lib.hid hb0
  clear rP hb0
  go_enter Tryz.func4, Tryz.ntmps4
  go_wp2_with fail
  clear hw0
  refine (large_l (IsP.stb.to HP.out (same_old B0.out))).mono ?_
  rintro e w1 ⟨⟨b1, rfl⟩, hb⟩
  have B1 := Lib.hid (below_step B0.out hb)
  replace cP0 := keep_cell hb cP0
  replace cP1 := keep_cell hb cP1
  replace cP2 := keep_cell hb cP2
  clear hb
  cases b1 with
  | true =>
    go_wp2_with fail
    refine (awake5_l (Bru.next HB.out B1.out)).mono ?_
    rintro e wz ⟨rfl, hb⟩
    go_wp2_with fail
    go_ret
    exact ⟨rfl, below_step B1.out hb⟩
  | false =>
    go_wp2_with fail
    refine (long_l (m := 6) (IsV.stb.to HX.out (same_old B1.out))).mono ?_
    rintro e w2 ⟨⟨b2, rfl⟩, hb⟩
    have B2 := Lib.hid (below_step B1.out hb)
    replace cP0 := keep_cell hb cP0
    replace cP1 := keep_cell hb cP1
    replace cP2 := keep_cell hb cP2
    clear hb
    cases b2 with
    | true =>
      go_wp2_with fail
      refine (awake5_l (Bru.next HB.out B2.out)).mono ?_
      rintro e wz ⟨rfl, hb⟩
      go_wp2_with fail
      go_ret
      exact ⟨rfl, below_step B2.out hb⟩
    | false =>
      go_wp2_with fail
      refine (long_l (m := 6) (IsV.stb.to HY.out (same_old B2.out))).mono ?_
      rintro e w3 ⟨⟨b3, rfl⟩, hb⟩
      have B3 := Lib.hid (below_step B2.out hb)
      replace cP0 := keep_cell hb cP0
      replace cP1 := keep_cell hb cP1
      replace cP2 := keep_cell hb cP2
      clear hb
      cases b3 with
      | true =>
        go_wp2_with fail
        refine (awake5_l (Bru.next HB.out B3.out)).mono ?_
        rintro e wz ⟨rfl, hb⟩
        go_wp2_with fail
        go_ret
        exact ⟨rfl, below_step B3.out hb⟩
      | false =>
        go_wp2_with fail
        refine (C1.out _ B3.out).mono ?_
        rintro e w4 ⟨⟨v4, rfl, hv⟩, hb⟩
        have B4a := Lib.hid (below_step B3.out hb)
        replace cP0 := keep_cell hb cP0
        replace cP1 := keep_cell hb cP1
        replace cP2 := keep_cell hb cP2
        have Vx := Lib.hid hv
        obtain ⟨P4, k4, Q4, l4, rfl, _⟩ := id hv
        clear hb hv
        obtain ⟨x4, hx4, hb, r4, _⟩ := boxes1 w4 #[.bool g.neg, .slice P4 g.num.length k4, .slice Q4 g.den.length l4] 31
        have B4 := Lib.hid (below_step B4a.out hb)
        have V4 := Lib.hid (IsR.stb.to Vx.out (same_old hb))
        replace cP0 := keep_cell hb cP0
        replace cP1 := keep_cell hb cP1
        replace cP2 := keep_cell hb cP2
        obtain ⟨u0, u1, u2⟩ := cells3 r4
        clear hb r4 Vx B4a
        go_wp2_with fail
        clear hx4
        refine (C2.out _ B4.out).mono ?_
        rintro e w5 ⟨⟨v5, rfl, hv⟩, hb⟩
        have B5a := Lib.hid (below_step B4.out hb)
        replace cP0 := keep_cell hb cP0
        replace cP1 := keep_cell hb cP1
        replace cP2 := keep_cell hb cP2
        replace u0 := keep_cell hb u0
        replace u1 := keep_cell hb u1
        replace u2 := keep_cell hb u2
        have V4 := Lib.hid (IsR.stb.to V4.out (same_old hb))
        have Vx := Lib.hid hv
        obtain ⟨P5, k5, Q5, l5, rfl, _⟩ := id hv
        clear hb hv
        obtain ⟨x5, hx5, hb, r5, _⟩ := boxes1 w5 #[.bool g.neg, .slice P5 g.num.length k5, .slice Q5 g.den.length l5] 31
        have B5 := Lib.hid (below_step B5a.out hb)
        have V5 := Lib.hid (IsR.stb.to Vx.out (same_old hb))
        have V4 := Lib.hid (IsR.stb.to V4.out (same_old hb))
        replace cP0 := keep_cell hb cP0
        replace cP1 := keep_cell hb cP1
        replace cP2 := keep_cell hb cP2
        obtain ⟨t0, t1, t2⟩ := cells3 r5
        replace u0 := keep_cell hb u0
        replace u1 := keep_cell hb u1
        replace u2 := keep_cell hb u2
        clear hb r5 Vx B5a
        go_wp2_with fail
        clear hx5
        refine (C3.out _ B5.out).mono ?_
        rintro e w6 ⟨rfl, hb⟩
        have B6 := Lib.hid (below_step B5.out hb)
        replace cP0 := keep_cell hb cP0
        replace cP1 := keep_cell hb cP1
        replace cP2 := keep_cell hb cP2
        replace u0 := keep_cell hb u0
        replace u1 := keep_cell hb u1
        replace u2 := keep_cell hb u2
        replace t0 := keep_cell hb t0
        replace t1 := keep_cell hb t1
        replace t2 := keep_cell hb t2
        have V4 := Lib.hid (IsR.stb.to V4.out (same_old hb))
        have V5 := Lib.hid (IsR.stb.to V5.out (same_old hb))
        clear hb
        go_wp2_with fail
        refine (C4.out _ B6.out).mono ?_
        rintro e w7 ⟨rfl, hb⟩
        have B7 := Lib.hid (below_step B6.out hb)
        replace cP0 := keep_cell hb cP0
        replace cP1 := keep_cell hb cP1
        replace cP2 := keep_cell hb cP2
        replace u0 := keep_cell hb u0
        replace u1 := keep_cell hb u1
        replace u2 := keep_cell hb u2
        replace t0 := keep_cell hb t0
        replace t1 := keep_cell hb t1
        replace t2 := keep_cell hb t2
        have V4 := Lib.hid (IsR.stb.to V4.out (same_old hb))
        have V5 := Lib.hid (IsR.stb.to V5.out (same_old hb))
        clear hb
        go_wp2_with fail
        refine (same_r V4.out V5.out).mono ?_
        rw [decide_eq_true rfl]
        rintro e w8 ⟨rfl, hb⟩
        have B8 := Lib.hid (below_step B7.out hb)
        clear hb cP0 cP1 cP2 u0 u1 u2 t0 t1 t2 V4 V5
        have es : (s == s) = true := beq_self_eq_true s
        have ee1 : (e1 == e1) = true := beq_self_eq_true e1
        have ee2 : (e2 == e2) = true := beq_self_eq_true e2
        go_wp2_with fail
        refine (awake5_l (Bru.next HB.out B8.out)).mono ?_
        rintro e wz ⟨rfl, hb⟩
        go_wp2_with fail
        go_ret
        exact ⟨rfl, below_step B8.out hb⟩

theorem law_gaps {w : World} {vp vx vy : Value} {p : Prog} {x y : List Raw} (hp : IsP w (Old w) vp p) (hx : IsV w (Old w) vx x) (hy : IsV w (Old w) vy y) (hB : Bru w) :
    Calls Tryz.prog 4 #[vp, vx, vy] w fun en w' => en = .returned (.bool true) ∧ Below w.heap.size w w' := by
  have toP : ∀ W, Below w.heap.size w W → IsP W (Old W) vp p := fun W h => IsP.stb.to hp (same_old h)
  have toX : ∀ W, Below w.heap.size w W → IsV W (Old W) vx x := fun W h => IsV.stb.to hx (same_old h)
  have toY : ∀ W, Below w.heap.size w W → IsV W (Old W) vy y := fun W h => IsV.stb.to hy (same_old h)
  have toB : ∀ W, Below w.heap.size w W → Bru W := fun W h => Bru.next hB h
  have bad : ∀ (e : Int), e ≠ 0 → (∀ W, Below w.heap.size w W → Calls Tryz.prog 56 #[vp, vx, vy] W fun en w' => en = .returned (.int .i64 e) ∧ Below W.heap.size W w') → (∀ W, Below w.heap.size w W → Calls Tryz.prog 60 #[vp, vx, vy] W fun en w' => en = .returned (.int .i64 e) ∧ Below W.heap.size W w') →
      Calls Tryz.prog 4 #[vp, vx, vy] w fun en w' => en = .returned (.bool true) ∧ Below w.heap.size w w' := by
    intro e he c1 c2
    refine law_gaps_of (g := nilRaw) (e1 := e) (e2 := e) (s := false) hp hx hy hB (fun W h => ?_) (fun W h => ?_) (fun W h => ?_) (fun W h => ?_)
    · exact (gap_err (toP W h) (fun W' h' => c1 _ (below_step h h')) he).mono fun en w' ⟨e1, e2⟩ => ⟨⟨_, e1, isR_nil⟩, e2⟩
    · exact (rgap_err (toP W h) (fun W' h' => c2 _ (below_step h h')) he).mono fun en w' ⟨e1, e2⟩ => ⟨⟨_, e1, isR_nil⟩, e2⟩
    · exact slack_err (toP W h) (fun W' h' => c1 _ (below_step h h')) he
    · exact rslack_err (toP W h) (fun W' h' => c2 _ (below_step h h')) he
  by_cases h0 : givE p [p.C.length, p.B.length] [x, y] = 0
  case neg => exact bad _ h0 (fun W h => pair_bad (toP W h) (toX W h) (toY W h) (toB W h) h0) (fun W h => rboth_bad (toP W h) (toX W h) (toY W h) h0)
  obtain ⟨q, xq, yq, rfl, hg, rfl, hlx, hsx, rfl, hly, hsy⟩ := givE_ok2 h0
  have hlx' : xq.length = q.C.length := by rw [hlx]; simp only [rawP, rawV_len]
  have hly' : yq.length = q.B.length := by rw [hly]; simp only [rawP, rawV_len]
  by_cases hf : feasB q.A q.B xq = true ∧ sufB q.A q.C yq = true
  case neg => exact bad 13 (by decide) (fun W h => pair_good (toP W h) (toX W h) (toY W h) (toB W h) hg h0 hlx' hsx hly' hsy (by rw [if_neg hf])) (fun W h => rboth_good (toP W h) (toX W h) (toY W h) hg h0 hlx' hsx hly' hsy (by rw [if_neg hf]))
  have c1 : ∀ W, Below w.heap.size w W → Calls Tryz.prog 56 #[vp, vx, vy] W fun en w' => en = .returned (.int .i64 0) ∧ Below W.heap.size W w' := fun W h => pair_good (toP W h) (toX W h) (toY W h) (toB W h) hg h0 hlx' hsx hly' hsy (by rw [if_pos hf])
  have c2 : ∀ W, Below w.heap.size w W → Calls Tryz.prog 60 #[vp, vx, vy] W fun en w' => en = .returned (.int .i64 0) ∧ Below W.heap.size W w' := fun W h => rboth_good (toP W h) (toX W h) (toY W h) hg h0 hlx' hsx hly' hsy (by rw [if_pos hf])
  refine law_gaps_of (g := gapR (dotQ q.B yq - dotQ q.C xq)) (e1 := gapE (dotQ q.B yq - dotQ q.C xq)) (e2 := 0) (s := slackB q.A q.B q.C xq yq) hp hx hy hB (fun W h => ?_) (fun W h => ?_) (fun W h => ?_) (fun W h => ?_)
  · exact gap_good (toP W h) (toX W h) (toY W h) (toB W h) hg (fun W' h' => c1 _ (below_step h h')) hlx' hsx hly' hsy rfl
  · exact rgap_good (toP W h) (toX W h) (toY W h) hg (fun W' h' => c2 _ (below_step h h')) hlx' hsx hly' hsy rfl
  · exact slack_good (toP W h) (toX W h) (toY W h) (toB W h) hg (fun W' h' => c1 _ (below_step h h')) hlx' hsx hly' hsy
  · exact rslack_good (toP W h) (toX W h) (toY W h) hg (fun W' h' => c2 _ (below_step h h')) hlx' hsx hly' hsy
end Go.Proofs.YtblpaocignlpkaaGreatDoor
