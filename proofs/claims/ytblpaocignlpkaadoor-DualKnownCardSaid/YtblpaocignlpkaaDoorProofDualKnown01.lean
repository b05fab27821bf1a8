/-
  The contract of package dual's Slack.
-/
import Derived.Test.YtblpaocignlpkaaDoorBase14
import Derived.Test.YtblpaocignlpkaaDoorBase12
namespace Go.Proofs.YtblpaocignlpkaaDoor
open Go.RowKit
set_option linter.unusedVariables false

theorem sgn_ne {q : Rat} : (sgnQ q != 0) = !decide (q = 0) := by
  rcases Decidable.em (q = 0) with h | h
  · rw [decide_eq_true h, sgnQ_zero.2 h]; rfl
  · rw [decide_eq_false h, bne_iff_ne.2 (fun e => h (sgnQ_zero.1 e))]; rfl
theorem cmp_ne {a b : Rat} : (cmpQ a b != 0) = !decide (a = b) := by
  rcases Decidable.em (a = b) with h | h
  · rw [decide_eq_true h, cmpQ_zero.2 h]; rfl
  · rw [decide_eq_false h, bne_iff_ne.2 (fun e => h (cmpQ_zero.1 e))]; rfl
def okRow (A : List (List Rat)) (B x y : List Rat) (i : Nat) : Bool := decide (y.getD i 0 = 0) || decide (dotQ (A.getD i []) x = B.getD i 0)
def okCol (A : List (List Rat)) (C x y : List Rat) (k : Nat) : Bool := decide (x.getD k 0 = 0) || decide (dotQ (colQ A k) y = C.getD k 0)
theorem slackB_eq (A : List (List Rat)) (B C x y : List Rat) : slackB A B C x y = ((List.range B.length).all (okRow A B x y) && (List.range C.length).all (okCol A C x y)) := rfl
theorem getD_some {l : List Rat} {j : Nat} {q : Rat} (h : l[j]? = some q) : l.getD j 0 = q := by rw [List.getD_eq_getElem?_getD, h]; rfl
theorem getD_row {l : List (List Rat)} {j : Nat} {q : List Rat} (h : l[j]? = some q) : l.getD j [] = q := by rw [List.getD_eq_getElem?_getD, h]; rfl

set_option maxRecDepth 100000 in
set_option maxHeartbeats 1000000 in
theorem slack_err {w : World} {vp vx vy : Value} {p : Prog} {e : Int} (hp : IsP w (Old w) vp p) (hc : ∀ w0, Below w.heap.size w w0 → Calls Tryd.prog 58 #[vp, vx, vy] w0 fun en w' => en = .returned (.int .i64 e) ∧ Below w0.heap.size w0 w') (he : e ≠ 0) :
    Calls Tryd.prog 19 #[vp, vx, vy] w fun en w' => en = .returned (.tuple #[.bool false, .int .i64 e]) ∧ Below w.heap.size w w' := by
  have Hc := Lib.hid hc
  obtain ⟨A, cA, B, cB, C, cC, rfl, _, _, _⟩ := hp
  have e0 : (e != 0) = true := bne_iff_ne.2 he
  clear hc he
  obtain ⟨w0, hw0, hb0, rP, Hz⟩ := boxes1 w #[.slice A p.A.length cA, .slice B p.B.length cB, .slice C p.C.length cC] 31
  have HB0 := Lib.hid hb0
  obtain ⟨cP0, cP1, cP2⟩ := cells3 rP
  clear rP hb0
  go_enter Tryd.func19, Tryd.ntmps19
  go_wp2_with fail
  clear hw0
  refine (Hc.out _ HB0.out).mono ?_
  rintro en w1 ⟨rfl, hb⟩
  go_wp2_with fail
  go_ret2
  exact ⟨rfl, below_step HB0.out hb⟩

set_option maxRecDepth 100000 in
set_option maxHeartbeats 8000000 in
theorem slack_good {w : World} {vp vx vy : Value} {q : ProgQ} {x y : List Rat} (hp : IsP w (Old w) vp (rawP q)) (hx : IsV w (Old w) vx (rawV x)) (hy : IsV w (Old w) vy (rawV y)) (hB : Bru w) (hg : Good q 1024)
    (hc : ∀ w0, Below w.heap.size w w0 → Calls Tryd.prog 58 #[vp, vx, vy] w0 fun en w' => en = .returned (.int .i64 0) ∧ Below w0.heap.size w0 w')
    (hl : x.length = q.C.length) (hsx : ∀ e ∈ x, Sz e 1024) (hly : y.length = q.B.length) (hsy : ∀ e ∈ y, Sz e 1024) :
    Calls Tryd.prog 19 #[vp, vx, vy] w fun en w' => en = .returned (.tuple #[.bool (slackB q.A q.B q.C x y), .int .i64 0]) ∧ Below w.heap.size w w' := by
  have HX := Lib.hid hx
  have HY := Lib.hid hy
  have HG := Lib.hid hg
  have Hl := Lib.hid hl
  have Hsx := Lib.hid hsx
  have Hly := Lib.hid hly
  have Hsy := Lib.hid hsy
  have HB := Lib.hid hB
  have Hc := Lib.hid hc
  obtain ⟨A, cA, B, cB, C, cC, rfl, hA, hBv, hC⟩ := hp
  obtain ⟨E, e1, rfl, _⟩ := isV_len hx
  obtain ⟨F, f1, rfl, _⟩ := isV_len hy
  obtain ⟨M, hM⟩ : ∃ m, m = q.B.length := ⟨_, rfl⟩
  obtain ⟨n, hn⟩ : ∃ m, m = q.C.length := ⟨_, rfl⟩
  simp only [rawP, rawV_len, rawM_len] at hA hBv hC HX HY Hc ⊢
  rw [hg.rows, hl, hly, ← hM, ← hn] at Hc ⊢
  rw [hg.rows, ← hM] at hA
  rw [← hM] at hBv
  rw [← hn] at hC
  rw [hl, ← hn] at HX
  rw [hly, ← hM] at HY
  have hM40 : M ≤ 40 := by rw [hM]; exact hg.nB
  have hn40 : n ≤ 40 := by rw [hn]; exact hg.nC
  have HM := Lib.hid hM
  have Hn := Lib.hid hn
  have HA := Lib.hid hA
  have HBv := Lib.hid hBv
  have HC := Lib.hid hC
  clear hx hy hB hg hc hl hsx hly hsy hA hBv hC hM hn
  obtain ⟨w0, hw0, hb0, rP, Hz⟩ := boxes1 w #[.slice A M cA, .slice B M cB, .slice C n cC] 31
  have HB0 := Lib.hid hb0
  have RP := Lib.hid rP
  obtain ⟨cP0, cP1, cP2⟩ := cells3 rP
  clear rP hb0
  go_enter Tryd.func19, Tryd.ntmps19
  go_wp2_with fail
  clear hw0
  refine (Hc.out _ HB0.out).mono ?_
  rintro en w1 ⟨rfl, hb⟩
  have Hb1 := Lib.hid (below_step HB0.out hb)
  have RP1 := Lib.hid (RP.out.next hb)
  clear hb cP0 cP1 cP2
  obtain ⟨cP0, cP1, cP2⟩ := cells3 RP1.out
  go_wp2_with fail
  clear cP0 cP1 cP2
  go_loopw [23, 9, 10] (fun i ii rr wr => ∃ j : Nat, j ≤ M ∧ i = .int .i64 (j : Int) ∧ Below w1.heap.size w1 wr ∧ Hid (∀ i, i < j → okRow q.A q.B x y i = true)) (fun i _ _ _ => M - (intOf i).toNat)
  case atStart => exact ⟨0, Nat.zero_le _, rfl, Below.refl _ _, fun i hi => by omega⟩
  case round =>
    obtain ⟨j, hj, rfl, hbw, hrel⟩ := hrel
    have Hbw := Lib.hid hbw
    have Hrel := Lib.hid hrel.out
    have HW := Lib.hid (below_step Hb1.out hbw)
    obtain ⟨cP0, cP1, cP2⟩ := cells3 (RP1.out.next hbw)
    clear hrel
    rcases Nat.lt_or_ge j M with hlt | hge
    · obtain ⟨row, hr, hrr⟩ := rawM_get (m := q.A) (j := j) (by rw [HG.out.rows, ← HM.out]; exact hlt)
      obtain ⟨b, hb, hbr⟩ := rawV_get (l := q.B) (j := j) (by rw [← HM.out]; exact hlt)
      obtain ⟨z, hz, hzr⟩ := rawV_get (l := y) (j := j) (by rw [Hly.out, ← HM.out]; exact hlt)
      obtain ⟨b2, o2, R1, R2, rfl, _, helr, d0⟩ := isM_get (IsM.stb.to HA.out (same_old HW.out)) hrr
      obtain ⟨b1, o1, X1, X2, X3, X4, rfl, _, helb, c0, c1, c2⟩ := isV_get (IsV.stb.to HBv.out (same_old HW.out)) hbr
      obtain ⟨b3, o3, Z1, Z2, Z3, Z4, rfl, _, helz, z0, z1, z2⟩ := isV_get (IsV.stb.to HY.out (same_old HW.out)) hzr
      have hrl : row.length = n := (HG.out.cols row (List.mem_of_getElem? hr)).trans Hn.out.symm
      have er : (rawV row).length = n := (rawV_len row).trans hrl
      rw [er] at d0 helr
      obtain ⟨bb0, hbb0⟩ : ∃ s, s = (raw b).neg := ⟨_, rfl⟩
      obtain ⟨bb1, hbb1⟩ : ∃ s, s = (raw b).num.length := ⟨_, rfl⟩
      obtain ⟨bb2, hbb2⟩ : ∃ s, s = (raw b).den.length := ⟨_, rfl⟩
      rw [← hbb0] at c0
      rw [← hbb1] at c1
      rw [← hbb2] at c2
      rw [← hbb0, ← hbb1, ← hbb2] at helb
      clear hbb0 hbb1 hbb2
      obtain ⟨zz0, hzz0⟩ : ∃ s, s = (raw z).neg := ⟨_, rfl⟩
      obtain ⟨zz1, hzz1⟩ : ∃ s, s = (raw z).num.length := ⟨_, rfl⟩
      obtain ⟨zz2, hzz2⟩ : ∃ s, s = (raw z).den.length := ⟨_, rfl⟩
      rw [← hzz0] at z0
      rw [← hzz1] at z1
      rw [← hzz2] at z2
      rw [← hzz0, ← hzz1, ← hzz2] at helz
      clear hzz0 hzz1 hzz2
      have QR := Lib.hid helr
      have QB := Lib.hid (isR_isQ helb)
      have QZ := Lib.hid (isR_isQ helz)
      have QX := Lib.hid (IsV.stb.to HX.out (same_old HW.out))
      have BW := Lib.hid (Bru.next HB.out HW.out)
      obtain ⟨d, hd⟩ : ∃ d, d = dotQ row x := ⟨_, rfl⟩
      obtain ⟨g, hg⟩ : ∃ g, g = sgnQ z := ⟨_, rfl⟩
      obtain ⟨o, ho⟩ : ∃ o, o = cmpQ d b := ⟨_, rfl⟩
      have Hok : Hid (okRow q.A q.B x y j = (decide (z = 0) || decide (d = b))) := by rw [Hid, okRow, getD_some hz, getD_some hb, getD_row hr, hd]
      have Hrl := Lib.hid hrl
      have Hsr : Hid (∀ e ∈ row, Sz e 1024) := HG.out.szA row (List.mem_of_getElem? hr)
      have Hsd : Hid (Sz d 100000) := by rw [Hid, hd]; exact dotQ_sz2 Hsr.out Hsx.out (by rw [hrl]; exact hn40)
      have Hsb : Hid (Sz b 100000) := (HG.out.szB b (List.mem_of_getElem? hb)).le (by omega)
      obtain ⟨v1, hv1⟩ : ∃ v, v = decide (z = 0) := ⟨_, rfl⟩
      obtain ⟨v2, hv2⟩ : ∃ v, v = decide (d = b) := ⟨_, rfl⟩
      have p1 : (g != 0) = !v1 := by rw [hg, hv1]; exact sgn_ne
      have p2 : (o != 0) = !v2 := by rw [ho, hv2]; exact cmp_ne
      rw [← hv1, ← hv2] at Hok
      have Hd := Lib.hid hd
      have Hg := Lib.hid hg
      have Ho := Lib.hid ho
      have cr := ratCells
      have hk0 : (0 : Int) ≤ (j : Int) := by omega
      have hk1 : (j : Int) < (M : Int) := by omega
      have CC := Lib.hid (And.intro cP1 (And.intro z0 (And.intro z1 (And.intro z2 (And.intro c0 (And.intro c1 c2))))))
      clear hr hb hz hrr hbr hzr helr helb helz hrl er hd hg ho hv1 hv2 hbw
      cases v1 with
      | true =>
        go_wp2_with fail
        have HS : Hid (∀ W : World, Below wr.heap.size wr W → W.cell? ⟨w.heap.size, 1, none⟩ = some (.slice (some ⟨b1, o1, none⟩) M cB) ∧ W.cell? ⟨b3, o3 + j * 3, none⟩ = some (.bool zz0) ∧ W.cell? ⟨b3, o3 + j * 3 + 1, none⟩ = some (.slice Z1 zz1 Z2) ∧ W.cell? ⟨b3, o3 + j * 3 + 2, none⟩ = some (.slice Z3 zz2 Z4) ∧ W.cell? ⟨b1, o1 + j * 3, none⟩ = some (.bool bb0) ∧ W.cell? ⟨b1, o1 + j * 3 + 1, none⟩ = some (.slice X1 bb1 X2) ∧ W.cell? ⟨b1, o1 + j * 3 + 2, none⟩ = some (.slice X3 bb2 X4)) := fun W hW => ⟨keep_cell hW CC.out.1, keep_cell hW CC.out.2.1, keep_cell hW CC.out.2.2.1, keep_cell hW CC.out.2.2.2.1, keep_cell hW CC.out.2.2.2.2.1, keep_cell hW CC.out.2.2.2.2.2.1, keep_cell hW CC.out.2.2.2.2.2.2⟩
        have D3 : Hid (∀ W : World, Below wr.heap.size wr W → Calls Tryd.prog 61 #[.agg #[.bool zz0, .slice Z1 zz1 Z2, .slice Z3 zz2 Z4]] W (fun e w' => e = .returned (.int .i64 g) ∧ Below W.heap.size W w')) := fun W hW => by rw [Hg.out]; exact sign_q (IsQ.stb.next QZ.out hW)
        refine wp_region_noPanic ?_
        refine wp_region_held_drew (S := fun w' => w'.cell? ⟨w.heap.size, 1, none⟩ = some (.slice (some ⟨b1, o1, none⟩) M cB) ∧ w'.cell? ⟨b3, o3 + j * 3, none⟩ = some (.bool zz0) ∧ w'.cell? ⟨b3, o3 + j * 3 + 1, none⟩ = some (.slice Z1 zz1 Z2) ∧ w'.cell? ⟨b3, o3 + j * 3 + 2, none⟩ = some (.slice Z3 zz2 Z4) ∧ w'.cell? ⟨b1, o1 + j * 3, none⟩ = some (.bool bb0) ∧ w'.cell? ⟨b1, o1 + j * 3 + 1, none⟩ = some (.slice X1 bb1 X2) ∧ w'.cell? ⟨b1, o1 + j * 3 + 2, none⟩ = some (.slice X3 bb2 X4)) (by kernel_rfl) (HS.out _ (by (repeat (first | exact Below.refl _ _ | assumption | refine below_allocR ?_ _ | refine below_drewR ?_ | refine below_put3X ?_ ?_ _ _ _ | refine below_setG ?_ (by omega) | refine below_step ?_ (by assumption))); (first | done | fail))) (fun hHeld => ?_)
        refine takeT (i := 0) (v := ?_) (some 28) rfl rfl (by kernel_rfl) (by kernel_rfl) (by kernel_rfl) (by rfl) (fun _ _ _ h => h) ?_ (by assumption) ?_
        rotate_left 1
        focus (intro w hSw; (try dsimp only at hSw); go_simp; (try (with_reducible rfl)))
        simp only [Act.put, List.setIfInBounds_toArray, List.set_cons_zero, List.set_cons_succ]
        refine takeT (i := 1) (v := ?_) (some 29) rfl rfl (by kernel_rfl) (by kernel_rfl) (by kernel_rfl) (by rfl) (fun _ _ _ h => h) ?_ (by assumption) ?_
        rotate_left 1
        focus (intro w hSw; (try dsimp only at hSw); go_simp; (try (with_reducible rfl)))
        simp only [Act.put, List.setIfInBounds_toArray, List.set_cons_zero, List.set_cons_succ]
        refine takeT (i := 2) (v := ?_) (some 30) rfl rfl (by kernel_rfl) (by kernel_rfl) (by kernel_rfl) (by rfl) (fun _ _ _ h => h) ?_ (by assumption) ?_
        rotate_left 1
        focus (intro w hSw; (try dsimp only at hSw); go_simp; (try (with_reducible rfl)))
        simp only [Act.put, List.setIfInBounds_toArray, List.set_cons_zero, List.set_cons_succ]
        refine takeT (i := 3) (v := ?_) (some 31) rfl rfl (by kernel_rfl) (by kernel_rfl) (by kernel_rfl) (by rfl) (fun _ _ _ h => h) ?_ (by assumption) ?_
        rotate_left 1
        focus (intro w hSw; (try dsimp only at hSw); go_simp; (try (with_reducible rfl)))
        simp only [Act.put, List.setIfInBounds_toArray, List.set_cons_zero, List.set_cons_succ]
        refine wpAnyH_ready (rs := [4]) (by kernel_rfl) (by simp) ?_
        refine AllReadyH.cons rfl (fun K hK => ?_) AllReadyH.nil
        go_simp
        go_at_call 61
        (with_reducible refine Calls.mono (D3.out _ (by (repeat (first | exact Below.refl _ _ | assumption | refine below_allocR ?_ _ | refine below_drewR ?_ | refine below_put3X ?_ ?_ _ _ _ | refine below_setG ?_ (by omega) | refine below_step ?_ (by assumption))); (first | done | fail))) ?_)
        rintro e w3 ⟨rfl, hb3⟩
        go_wp2_with fail
        refine hK.out _ _ (HS.out _ (by (repeat (first | exact Below.refl _ _ | assumption | refine below_allocR ?_ _ | refine below_drewR ?_ | refine below_put3X ?_ ?_ _ _ _ | refine below_setG ?_ (by omega) | refine below_step ?_ (by assumption))); (first | done | fail))) (fun hHeld => ?_)
        clear hK K
        refine takeT (i := 5) (v := ?_) (some 33) rfl rfl (by kernel_rfl) (by kernel_rfl) (by kernel_rfl) (by rfl) (fun _ _ _ h => h) ?_ (by assumption) ?_
        rotate_left 1
        focus (intro w hSw; (try dsimp only at hSw); go_simp; (try (with_reducible rfl)))
        simp only [Act.put, List.setIfInBounds_toArray, List.set_cons_zero, List.set_cons_succ]
        refine takeT (i := 6) (v := ?_) (some 34) rfl rfl (by kernel_rfl) (by kernel_rfl) (by kernel_rfl) (by rfl) (fun _ _ _ h => h) ?_ (by assumption) ?_
        rotate_left 1
        focus (intro w hSw; (try dsimp only at hSw); go_simp; (try (with_reducible rfl)))
        simp only [Act.put, List.setIfInBounds_toArray, List.set_cons_zero, List.set_cons_succ]
        refine takeU (i := 7) (some 35) rfl rfl (by kernel_rfl) (by kernel_rfl) (by kernel_rfl) (by rfl) (fun _ _ _ h => h) (by assumption) ?_
        simp only [Act.put, List.setIfInBounds_toArray, List.set_cons_zero, List.set_cons_succ]
        refine takeU (i := 8) (some 36) rfl rfl (by kernel_rfl) (by kernel_rfl) (by kernel_rfl) (by rfl) (fun _ _ _ h => h) (by assumption) ?_
        simp only [Act.put, List.setIfInBounds_toArray, List.set_cons_zero, List.set_cons_succ]
        refine takeU (i := 9) (some 37) rfl rfl (by kernel_rfl) (by kernel_rfl) (by kernel_rfl) (by rfl) (fun _ _ _ h => h) (by assumption) ?_
        simp only [Act.put, List.setIfInBounds_toArray, List.set_cons_zero, List.set_cons_succ]
        refine takeU (i := 10) (some 38) rfl rfl (by kernel_rfl) (by kernel_rfl) (by kernel_rfl) (by rfl) (fun _ _ _ h => h) (by assumption) ?_
        simp only [Act.put, List.setIfInBounds_toArray, List.set_cons_zero, List.set_cons_succ]
        refine takeU (i := 11) (some 39) rfl rfl (by kernel_rfl) (by kernel_rfl) (by kernel_rfl) (by rfl) (fun _ _ _ h => h) (by assumption) ?_
        simp only [Act.put, List.setIfInBounds_toArray, List.set_cons_zero, List.set_cons_succ]
        refine takeU (i := 12) (some 40) rfl rfl (by kernel_rfl) (by kernel_rfl) (by kernel_rfl) (by rfl) (fun _ _ _ h => h) (by assumption) ?_
        simp only [Act.put, List.setIfInBounds_toArray, List.set_cons_zero, List.set_cons_succ]
        refine takeU (i := 13) (some 41) rfl rfl (by kernel_rfl) (by kernel_rfl) (by kernel_rfl) (by rfl) (fun _ _ _ h => h) (by assumption) ?_
        simp only [Act.put, List.setIfInBounds_toArray, List.set_cons_zero, List.set_cons_succ]
        refine takeU (i := 14) (some 42) rfl rfl (by kernel_rfl) (by kernel_rfl) (by kernel_rfl) (by rfl) (fun _ _ _ h => h) (by assumption) ?_
        simp only [Act.put, List.setIfInBounds_toArray, List.set_cons_zero, List.set_cons_succ]
        refine takeU (i := 15) (some 43) rfl rfl (by kernel_rfl) (by kernel_rfl) (by kernel_rfl) (by rfl) (fun _ _ _ h => h) (by assumption) ?_
        simp only [Act.put, List.setIfInBounds_toArray, List.set_cons_zero, List.set_cons_succ]
        refine takeU (i := 16) (some 44) rfl rfl (by kernel_rfl) (by kernel_rfl) (by kernel_rfl) (by rfl) (fun _ _ _ h => h) (by assumption) ?_
        simp only [Act.put, List.setIfInBounds_toArray, List.set_cons_zero, List.set_cons_succ]
        refine takeT (i := 17) (v := ?_) (some 45) rfl rfl (by kernel_rfl) (by kernel_rfl) (by kernel_rfl) (by rfl) (fun _ _ _ h => h) ?_ (by assumption) ?_
        rotate_left 1
        focus (intro w hSw; (try dsimp only at hSw); go_simp; (try (with_reducible rfl)))
        simp only [Act.put, List.setIfInBounds_toArray, List.set_cons_zero, List.set_cons_succ]
        refine wpAnyH_done (by kernel_rfl) ?_ _
        refine NoPanic.normal ?_
        go_wp2_with fail
        go_roundw
        case rel =>
          refine ⟨j + 1, by omega, by go_num, Below.trans Hbw.out (Below.mono (show Below wr.heap.size wr w3 from (by (repeat (first | exact Below.refl _ _ | assumption | refine below_allocR ?_ _ | refine below_drewR ?_ | refine below_put3X ?_ ?_ _ _ _ | refine below_setG ?_ (by omega) | refine below_step ?_ (by assumption))); (first | done | fail))) (Below.size Hbw.out)), fun i hi => ?_⟩
          rcases Nat.lt_or_ge i j with h | h
          · exact Hrel.out i h
          · obtain rfl : i = j := by omega
            rw [Hok.out]; rfl
        case measure => simp [intOf]; omega
      | false =>
        cases v2 with
        | false =>
          go_wp2_with fail
          have HS : Hid (∀ W : World, Below wr.heap.size wr W → W.cell? ⟨w.heap.size, 1, none⟩ = some (.slice (some ⟨b1, o1, none⟩) M cB) ∧ W.cell? ⟨b3, o3 + j * 3, none⟩ = some (.bool zz0) ∧ W.cell? ⟨b3, o3 + j * 3 + 1, none⟩ = some (.slice Z1 zz1 Z2) ∧ W.cell? ⟨b3, o3 + j * 3 + 2, none⟩ = some (.slice Z3 zz2 Z4) ∧ W.cell? ⟨b1, o1 + j * 3, none⟩ = some (.bool bb0) ∧ W.cell? ⟨b1, o1 + j * 3 + 1, none⟩ = some (.slice X1 bb1 X2) ∧ W.cell? ⟨b1, o1 + j * 3 + 2, none⟩ = some (.slice X3 bb2 X4)) := fun W hW => ⟨keep_cell hW CC.out.1, keep_cell hW CC.out.2.1, keep_cell hW CC.out.2.2.1, keep_cell hW CC.out.2.2.2.1, keep_cell hW CC.out.2.2.2.2.1, keep_cell hW CC.out.2.2.2.2.2.1, keep_cell hW CC.out.2.2.2.2.2.2⟩
          have D3 : Hid (∀ W : World, Below wr.heap.size wr W → Calls Tryd.prog 61 #[.agg #[.bool zz0, .slice Z1 zz1 Z2, .slice Z3 zz2 Z4]] W (fun e w' => e = .returned (.int .i64 g) ∧ Below W.heap.size W w')) := fun W hW => by rw [Hg.out]; exact sign_q (IsQ.stb.next QZ.out hW)
          go_region_held3 (fun w' => w'.cell? ⟨w.heap.size, 1, none⟩ = some (.slice (some ⟨b1, o1, none⟩) M cB) ∧ w'.cell? ⟨b3, o3 + j * 3, none⟩ = some (.bool zz0) ∧ w'.cell? ⟨b3, o3 + j * 3 + 1, none⟩ = some (.slice Z1 zz1 Z2) ∧ w'.cell? ⟨b3, o3 + j * 3 + 2, none⟩ = some (.slice Z3 zz2 Z4) ∧ w'.cell? ⟨b1, o1 + j * 3, none⟩ = some (.bool bb0) ∧ w'.cell? ⟨b1, o1 + j * 3 + 1, none⟩ = some (.slice X1 bb1 X2) ∧ w'.cell? ⟨b1, o1 + j * 3 + 2, none⟩ = some (.slice X3 bb2 X4))
            (exact HS.out _ (by (repeat (first | exact Below.refl _ _ | assumption | refine below_allocR ?_ _ | refine below_drewR ?_ | refine below_put3X ?_ ?_ _ _ _ | refine below_setG ?_ (by omega) | refine below_step ?_ (by assumption))); (first | done | fail)))
            (first
              | (go_at_call 61; (with_reducible refine Calls.mono (D3.out _ (by (repeat (first | exact Below.refl _ _ | assumption | refine below_allocR ?_ _ | refine below_drewR ?_ | refine below_put3X ?_ ?_ _ _ _ | refine below_setG ?_ (by omega) | refine below_step ?_ (by assumption))); (first | done | fail))) ?_); rintro e w3 ⟨rfl, hb3⟩; have D4 : Hid (∀ W : World, Below w3.heap.size w3 W → Calls Tryd.prog 57 #[.slice R1 n R2, .slice E n e1] W (RetQ W d)) := fun W hW => by rw [Hd.out]; exact dot_q (M := n) (IsV.stb.next QR.out (by (repeat (first | exact Below.refl _ _ | assumption | refine below_allocR ?_ _ | refine below_drewR ?_ | refine below_put3X ?_ ?_ _ _ _ | refine below_setG ?_ (by omega) | refine below_step ?_ (by assumption))); (first | done | fail))) (IsV.stb.next QX.out (by (repeat (first | exact Below.refl _ _ | assumption | refine below_allocR ?_ _ | refine below_drewR ?_ | refine below_put3X ?_ ?_ _ _ _ | refine below_setG ?_ (by omega) | refine below_step ?_ (by assumption))); (first | done | fail))) (Bru.next BW.out (by (repeat (first | exact Below.refl _ _ | assumption | refine below_allocR ?_ _ | refine below_drewR ?_ | refine below_put3X ?_ ?_ _ _ _ | refine below_setG ?_ (by omega) | refine below_step ?_ (by assumption))); (first | done | fail))) Hrl.out (Hl.out.trans Hn.out.symm) hn40 Hsr.out Hsx.out)
              | (go_at_call 57; (with_reducible refine Calls.mono (D4.out _ (by (repeat (first | exact Below.refl _ _ | assumption | refine below_allocR ?_ _ | refine below_drewR ?_ | refine below_put3X ?_ ?_ _ _ _ | refine below_setG ?_ (by omega) | refine below_step ?_ (by assumption))); (first | done | fail))) ?_); rintro e w4 ⟨⟨v4, rfl, hv4⟩, hb4⟩; have V4 := Lib.hid (IsQ.stb.old hv4); obtain ⟨s4, P4, k4, O4, l4, rfl, _, _, _⟩ := isQ_open hv4; have D5 : Hid (∀ W : World, Below w4.heap.size w4 W → Calls Tryd.prog 56 #[.agg #[.bool s4, .slice P4 (lim d.num.natAbs).length k4, .slice O4 (lim d.den).length l4], .agg #[.bool bb0, .slice X1 bb1 X2, .slice X3 bb2 X4]] W (fun e w' => e = .returned (.int .i64 o) ∧ Below W.heap.size W w')) := fun W hW => by rw [Ho.out]; exact order_q (IsQ.stb.next V4.out hW) (IsQ.stb.next QB.out (by (repeat (first | exact Below.refl _ _ | assumption | refine below_allocR ?_ _ | refine below_drewR ?_ | refine below_put3X ?_ ?_ _ _ _ | refine below_setG ?_ (by omega) | refine below_step ?_ (by assumption))); (first | done | fail))) Hsd.out Hsb.out)
              | (go_at_call 56; (with_reducible refine Calls.mono (D5.out _ (by (repeat (first | exact Below.refl _ _ | assumption | refine below_allocR ?_ _ | refine below_drewR ?_ | refine below_put3X ?_ ?_ _ _ _ | refine below_setG ?_ (by omega) | refine below_step ?_ (by assumption))); (first | done | fail))) ?_); rintro e w5 ⟨rfl, hb5⟩))
          go_wp2_with fail
          have Hr : Hid (slackB q.A q.B q.C x y = false) := by rw [Hid, slackB_eq, all_range_not (k := j) (by rw [← HM.out]; exact hlt) Hok.out]; rfl
          go_ret2
          exact ⟨by rw [Hr.out]; rfl, below_step Hb1.out (Below.trans Hbw.out (Below.mono (show Below wr.heap.size wr w5 from (by (repeat (first | exact Below.refl _ _ | assumption | refine below_allocR ?_ _ | refine below_drewR ?_ | refine below_put3X ?_ ?_ _ _ _ | refine below_setG ?_ (by omega) | refine below_step ?_ (by assumption))); (first | done | fail))) (Below.size Hbw.out)))⟩
        | true =>
          go_wp2_with fail
          have HS : Hid (∀ W : World, Below wr.heap.size wr W → W.cell? ⟨w.heap.size, 1, none⟩ = some (.slice (some ⟨b1, o1, none⟩) M cB) ∧ W.cell? ⟨b3, o3 + j * 3, none⟩ = some (.bool zz0) ∧ W.cell? ⟨b3, o3 + j * 3 + 1, none⟩ = some (.slice Z1 zz1 Z2) ∧ W.cell? ⟨b3, o3 + j * 3 + 2, none⟩ = some (.slice Z3 zz2 Z4) ∧ W.cell? ⟨b1, o1 + j * 3, none⟩ = some (.bool bb0) ∧ W.cell? ⟨b1, o1 + j * 3 + 1, none⟩ = some (.slice X1 bb1 X2) ∧ W.cell? ⟨b1, o1 + j * 3 + 2, none⟩ = some (.slice X3 bb2 X4)) := fun W hW => ⟨keep_cell hW CC.out.1, keep_cell hW CC.out.2.1, keep_cell hW CC.out.2.2.1, keep_cell hW CC.out.2.2.2.1, keep_cell hW CC.out.2.2.2.2.1, keep_cell hW CC.out.2.2.2.2.2.1, keep_cell hW CC.out.2.2.2.2.2.2⟩
          have D3 : Hid (∀ W : World, Below wr.heap.size wr W → Calls Tryd.prog 61 #[.agg #[.bool zz0, .slice Z1 zz1 Z2, .slice Z3 zz2 Z4]] W (fun e w' => e = .returned (.int .i64 g) ∧ Below W.heap.size W w')) := fun W hW => by rw [Hg.out]; exact sign_q (IsQ.stb.next QZ.out hW)
          go_region_held3 (fun w' => w'.cell? ⟨w.heap.size, 1, none⟩ = some (.slice (some ⟨b1, o1, none⟩) M cB) ∧ w'.cell? ⟨b3, o3 + j * 3, none⟩ = some (.bool zz0) ∧ w'.cell? ⟨b3, o3 + j * 3 + 1, none⟩ = some (.slice Z1 zz1 Z2) ∧ w'.cell? ⟨b3, o3 + j * 3 + 2, none⟩ = some (.slice Z3 zz2 Z4) ∧ w'.cell? ⟨b1, o1 + j * 3, none⟩ = some (.bool bb0) ∧ w'.cell? ⟨b1, o1 + j * 3 + 1, none⟩ = some (.slice X1 bb1 X2) ∧ w'.cell? ⟨b1, o1 + j * 3 + 2, none⟩ = some (.slice X3 bb2 X4))
            (exact HS.out _ (by (repeat (first | exact Below.refl _ _ | assumption | refine below_allocR ?_ _ | refine below_drewR ?_ | refine below_put3X ?_ ?_ _ _ _ | refine below_setG ?_ (by omega) | refine below_step ?_ (by assumption))); (first | done | fail)))
            (first
              | (go_at_call 61; (with_reducible refine Calls.mono (D3.out _ (by (repeat (first | exact Below.refl _ _ | assumption | refine below_allocR ?_ _ | refine below_drewR ?_ | refine below_put3X ?_ ?_ _ _ _ | refine below_setG ?_ (by omega) | refine below_step ?_ (by assumption))); (first | done | fail))) ?_); rintro e w3 ⟨rfl, hb3⟩; have D4 : Hid (∀ W : World, Below w3.heap.size w3 W → Calls Tryd.prog 57 #[.slice R1 n R2, .slice E n e1] W (RetQ W d)) := fun W hW => by rw [Hd.out]; exact dot_q (M := n) (IsV.stb.next QR.out (by (repeat (first | exact Below.refl _ _ | assumption | refine below_allocR ?_ _ | refine below_drewR ?_ | refine below_put3X ?_ ?_ _ _ _ | refine below_setG ?_ (by omega) | refine below_step ?_ (by assumption))); (first | done | fail))) (IsV.stb.next QX.out (by (repeat (first | exact Below.refl _ _ | assumption | refine below_allocR ?_ _ | refine below_drewR ?_ | refine below_put3X ?_ ?_ _ _ _ | refine below_setG ?_ (by omega) | refine below_step ?_ (by assumption))); (first | done | fail))) (Bru.next BW.out (by (repeat (first | exact Below.refl _ _ | assumption | refine below_allocR ?_ _ | refine below_drewR ?_ | refine below_put3X ?_ ?_ _ _ _ | refine below_setG ?_ (by omega) | refine below_step ?_ (by assumption))); (first | done | fail))) Hrl.out (Hl.out.trans Hn.out.symm) hn40 Hsr.out Hsx.out)
              | (go_at_call 57; (with_reducible refine Calls.mono (D4.out _ (by (repeat (first | exact Below.refl _ _ | assumption | refine below_allocR ?_ _ | refine below_drewR ?_ | refine below_put3X ?_ ?_ _ _ _ | refine below_setG ?_ (by omega) | refine below_step ?_ (by assumption))); (first | done | fail))) ?_); rintro e w4 ⟨⟨v4, rfl, hv4⟩, hb4⟩; have V4 := Lib.hid (IsQ.stb.old hv4); obtain ⟨s4, P4, k4, O4, l4, rfl, _, _, _⟩ := isQ_open hv4; have D5 : Hid (∀ W : World, Below w4.heap.size w4 W → Calls Tryd.prog 56 #[.agg #[.bool s4, .slice P4 (lim d.num.natAbs).length k4, .slice O4 (lim d.den).length l4], .agg #[.bool bb0, .slice X1 bb1 X2, .slice X3 bb2 X4]] W (fun e w' => e = .returned (.int .i64 o) ∧ Below W.heap.size W w')) := fun W hW => by rw [Ho.out]; exact order_q (IsQ.stb.next V4.out hW) (IsQ.stb.next QB.out (by (repeat (first | exact Below.refl _ _ | assumption | refine below_allocR ?_ _ | refine below_drewR ?_ | refine below_put3X ?_ ?_ _ _ _ | refine below_setG ?_ (by omega) | refine below_step ?_ (by assumption))); (first | done | fail))) Hsd.out Hsb.out)
              | (go_at_call 56; (with_reducible refine Calls.mono (D5.out _ (by (repeat (first | exact Below.refl _ _ | assumption | refine below_allocR ?_ _ | refine below_drewR ?_ | refine below_put3X ?_ ?_ _ _ _ | refine below_setG ?_ (by omega) | refine below_step ?_ (by assumption))); (first | done | fail))) ?_); rintro e w5 ⟨rfl, hb5⟩))
          go_wp2_with fail
          go_roundw
          case rel =>
            refine ⟨j + 1, by omega, by go_num, Below.trans Hbw.out (Below.mono (show Below wr.heap.size wr w5 from (by (repeat (first | exact Below.refl _ _ | assumption | refine below_allocR ?_ _ | refine below_drewR ?_ | refine below_put3X ?_ ?_ _ _ _ | refine below_setG ?_ (by omega) | refine below_step ?_ (by assumption))); (first | done | fail))) (Below.size Hbw.out)), fun i hi => ?_⟩
            rcases Nat.lt_or_ge i j with h | h
            · exact Hrel.out i h
            · obtain rfl : i = j := by omega
              rw [Hok.out]; rfl
          case measure => simp [intOf]; omega
    · obtain rfl : j = M := by omega
      have Hrows : Hid ((List.range q.B.length).all (okRow q.A q.B x y) = true) := all_range_of (by rw [← HM.out]; exact Hrel.out)
      have R0 := Lib.hid (RP1.out.next hbw)
      obtain ⟨wo, hwo⟩ : ∃ x, x = wr := ⟨_, rfl⟩
      subst hwo
      clear hbw Hrel
      go_wp2_with fail
      clear cP0 cP1 cP2
      go_loopw [50, 11] (fun i kk wr => ∃ k : Nat, k ≤ n ∧ i = .int .i64 (k : Int) ∧ Below wo.heap.size wo wr ∧ Hid (∀ i, i < k → okCol q.A q.C x y i = true)) (fun i _ _ => n - (intOf i).toNat)
      case atStart => exact ⟨0, Nat.zero_le _, rfl, Below.refl _ _, fun i hi => by omega⟩
      case round =>
        obtain ⟨k, hk, rfl, hbw2, hrel⟩ := hrel
        have Hbw2 := Lib.hid hbw2
        have Hrel := Lib.hid hrel.out
        have HW2 := Lib.hid (below_step HW.out hbw2)
        obtain ⟨cP0, cP1, cP2⟩ := cells3 (R0.out.next hbw2)
        have hlP : w.heap.size < wr.heap.size := Nat.lt_of_lt_of_le R0.out.lt hbw2.size
        clear hrel
        rcases Nat.lt_or_ge k n with hlt | hge
        · obtain ⟨c, hc, hcr⟩ := rawV_get (l := q.C) (j := k) (by rw [← Hn.out]; exact hlt)
          obtain ⟨z, hz, hzr⟩ := rawV_get (l := x) (j := k) (by rw [Hl.out, ← Hn.out]; exact hlt)
          obtain ⟨b1, o1, X1, X2, X3, X4, rfl, _, helb, c0, c1, c2⟩ := isV_get (IsV.stb.to HC.out (same_old HW2.out)) hcr
          obtain ⟨b3, o3, Z1, Z2, Z3, Z4, rfl, _, helz, z0, z1, z2⟩ := isV_get (IsV.stb.to HX.out (same_old HW2.out)) hzr
          obtain ⟨bb0, hbb0⟩ : ∃ s, s = (raw c).neg := ⟨_, rfl⟩
          obtain ⟨bb1, hbb1⟩ : ∃ s, s = (raw c).num.length := ⟨_, rfl⟩
          obtain ⟨bb2, hbb2⟩ : ∃ s, s = (raw c).den.length := ⟨_, rfl⟩
          rw [← hbb0] at c0
          rw [← hbb1] at c1
          rw [← hbb2] at c2
          rw [← hbb0, ← hbb1, ← hbb2] at helb
          clear hbb0 hbb1 hbb2
          obtain ⟨zz0, hzz0⟩ : ∃ s, s = (raw z).neg := ⟨_, rfl⟩
          obtain ⟨zz1, hzz1⟩ : ∃ s, s = (raw z).num.length := ⟨_, rfl⟩
          obtain ⟨zz2, hzz2⟩ : ∃ s, s = (raw z).den.length := ⟨_, rfl⟩
          rw [← hzz0] at z0
          rw [← hzz1] at z1
          rw [← hzz2] at z2
          rw [← hzz0, ← hzz1, ← hzz2] at helz
          clear hzz0 hzz1 hzz2
          have QC := Lib.hid (isR_isQ helb)
          have QZ := Lib.hid (isR_isQ helz)
          have QA := Lib.hid (IsM.stb.to HA.out (same_old HW2.out))
          have QY := Lib.hid (IsV.stb.to HY.out (same_old HW2.out))
          have BW := Lib.hid (Bru.next HB.out HW2.out)
          obtain ⟨d, hd⟩ : ∃ d, d = dotQ (colQ q.A k) y := ⟨_, rfl⟩
          obtain ⟨g, hg⟩ : ∃ g, g = sgnQ z := ⟨_, rfl⟩
          obtain ⟨o, ho⟩ : ∃ o, o = cmpQ d c := ⟨_, rfl⟩
          have Hok : Hid (okCol q.A q.C x y k = (decide (z = 0) || decide (d = c))) := by rw [Hid, okCol, getD_some hz, getD_some hc, hd]
          have Hsd : Hid (Sz d 100000) := by rw [Hid, hd]; exact dotQ_sz2 (colQ_sz HG.out.szA (by omega)) Hsy.out (by rw [colQ_len, HG.out.rows, ← HM.out]; exact hM40)
          have Hsb : Hid (Sz c 100000) := (HG.out.szC c (List.mem_of_getElem? hc)).le (by omega)
          obtain ⟨v1, hv1⟩ : ∃ v, v = decide (z = 0) := ⟨_, rfl⟩
          obtain ⟨v2, hv2⟩ : ∃ v, v = decide (d = c) := ⟨_, rfl⟩
          have p1 : (g != 0) = !v1 := by rw [hg, hv1]; exact sgn_ne
          have p2 : (o != 0) = !v2 := by rw [ho, hv2]; exact cmp_ne
          rw [← hv1, ← hv2] at Hok
          have Hd := Lib.hid hd
          have Hg := Lib.hid hg
          have Ho := Lib.hid ho
          have cr := ratCells
          have hk0 : (0 : Int) ≤ (k : Int) := by omega
          have hk1 : (k : Int) < (n : Int) := by omega
          obtain ⟨wb, hwb, hbb, rC, Hzb⟩ := boxes1 wr #[.bool bb0, .slice X1 bb1 X2, .slice X3 bb2 X4] 50
          have CC := Lib.hid (And.intro (keep_cell hbb cP0) (And.intro (keep_cell hbb z0) (And.intro (keep_cell hbb z1) (And.intro (keep_cell hbb z2) (cells3 rC)))))
          have HBB := Lib.hid hbb
          have Hlt := Lib.hid hlt
          clear hc hz hcr hzr helb helz hd hg ho hv1 hv2 hbw2 rC
          cases v1 with
          | true =>
            go_wp2_with fail
            clear hwb
            have HS : Hid (∀ W : World, Below wb.heap.size wb W → W.cell? ⟨w.heap.size, 0, none⟩ = some (.slice A j cA) ∧ W.cell? ⟨b3, o3 + k * 3, none⟩ = some (.bool zz0) ∧ W.cell? ⟨b3, o3 + k * 3 + 1, none⟩ = some (.slice Z1 zz1 Z2) ∧ W.cell? ⟨b3, o3 + k * 3 + 2, none⟩ = some (.slice Z3 zz2 Z4) ∧ W.cell? ⟨wr.heap.size, 0, none⟩ = some (.bool bb0) ∧ W.cell? ⟨wr.heap.size, 1, none⟩ = some (.slice X1 bb1 X2) ∧ W.cell? ⟨wr.heap.size, 2, none⟩ = some (.slice X3 bb2 X4)) := fun W hW => ⟨keep_cell hW CC.out.1, keep_cell hW CC.out.2.1, keep_cell hW CC.out.2.2.1, keep_cell hW CC.out.2.2.2.1, keep_cell hW CC.out.2.2.2.2.1, keep_cell hW CC.out.2.2.2.2.2.1, keep_cell hW CC.out.2.2.2.2.2.2⟩
            have D3 : Hid (∀ W : World, Below wb.heap.size wb W → Calls Tryd.prog 61 #[.agg #[.bool zz0, .slice Z1 zz1 Z2, .slice Z3 zz2 Z4]] W (fun e w' => e = .returned (.int .i64 g) ∧ Below W.heap.size W w')) := fun W hW => by rw [Hg.out]; exact sign_q (IsQ.stb.next QZ.out (below_step HBB.out hW))
            refine wp_region_noPanic ?_
            refine wp_region_held_drew (S := fun w' => w'.cell? ⟨w.heap.size, 0, none⟩ = some (.slice A j cA) ∧ w'.cell? ⟨b3, o3 + k * 3, none⟩ = some (.bool zz0) ∧ w'.cell? ⟨b3, o3 + k * 3 + 1, none⟩ = some (.slice Z1 zz1 Z2) ∧ w'.cell? ⟨b3, o3 + k * 3 + 2, none⟩ = some (.slice Z3 zz2 Z4) ∧ w'.cell? ⟨wr.heap.size, 0, none⟩ = some (.bool bb0) ∧ w'.cell? ⟨wr.heap.size, 1, none⟩ = some (.slice X1 bb1 X2) ∧ w'.cell? ⟨wr.heap.size, 2, none⟩ = some (.slice X3 bb2 X4)) (by kernel_rfl) (HS.out _ (by (repeat (first | exact Below.refl _ _ | assumption | refine below_allocR ?_ _ | refine below_drewR ?_ | refine below_put3X ?_ ?_ _ _ _ | refine below_setG ?_ (by omega) | refine below_step ?_ (by assumption))); (first | done | fail))) (fun hHeld => ?_)
            refine takeT (i := 0) (v := ?_) (some 55) rfl rfl (by kernel_rfl) (by kernel_rfl) (by kernel_rfl) (by rfl) (fun _ _ _ h => h) ?_ (by assumption) ?_
            rotate_left 1
            focus (intro w hSw; (try dsimp only at hSw); go_simp; (try (with_reducible rfl)))
            simp only [Act.put, List.setIfInBounds_toArray, List.set_cons_zero, List.set_cons_succ]
            refine takeT (i := 1) (v := ?_) (some 56) rfl rfl (by kernel_rfl) (by kernel_rfl) (by kernel_rfl) (by rfl) (fun _ _ _ h => h) ?_ (by assumption) ?_
            rotate_left 1
            focus (intro w hSw; (try dsimp only at hSw); go_simp; (try (with_reducible rfl)))
            simp only [Act.put, List.setIfInBounds_toArray, List.set_cons_zero, List.set_cons_succ]
            refine takeT (i := 2) (v := ?_) (some 57) rfl rfl (by kernel_rfl) (by kernel_rfl) (by kernel_rfl) (by rfl) (fun _ _ _ h => h) ?_ (by assumption) ?_
            rotate_left 1
            focus (intro w hSw; (try dsimp only at hSw); go_simp; (try (with_reducible rfl)))
            simp only [Act.put, List.setIfInBounds_toArray, List.set_cons_zero, List.set_cons_succ]
            refine takeT (i := 3) (v := ?_) (some 58) rfl rfl (by kernel_rfl) (by kernel_rfl) (by kernel_rfl) (by rfl) (fun _ _ _ h => h) ?_ (by assumption) ?_
            rotate_left 1
            focus (intro w hSw; (try dsimp only at hSw); go_simp; (try (with_reducible rfl)))
            simp only [Act.put, List.setIfInBounds_toArray, List.set_cons_zero, List.set_cons_succ]
            refine wpAnyH_ready (rs := [4]) (by kernel_rfl) (by simp) ?_
            refine AllReadyH.cons rfl (fun K hK => ?_) AllReadyH.nil
            go_simp
            go_at_call 61
            (with_reducible refine Calls.mono (D3.out _ (by (repeat (first | exact Below.refl _ _ | assumption | refine below_allocR ?_ _ | refine below_drewR ?_ | refine below_put3X ?_ ?_ _ _ _ | refine below_setG ?_ (by omega) | refine below_step ?_ (by assumption))); (first | done | fail))) ?_)
            rintro e w3 ⟨rfl, hb3⟩
            go_wp2_with fail
            refine hK.out _ _ (HS.out _ (by (repeat (first | exact Below.refl _ _ | assumption | refine below_allocR ?_ _ | refine below_drewR ?_ | refine below_put3X ?_ ?_ _ _ _ | refine below_setG ?_ (by omega) | refine below_step ?_ (by assumption))); (first | done | fail))) (fun hHeld => ?_)
            clear hK K
            refine takeT (i := 5) (v := ?_) (some 60) rfl rfl (by kernel_rfl) (by kernel_rfl) (by kernel_rfl) (by rfl) (fun _ _ _ h => h) ?_ (by assumption) ?_
            rotate_left 1
            focus (intro w hSw; (try dsimp only at hSw); go_simp; (try (with_reducible rfl)))
            simp only [Act.put, List.setIfInBounds_toArray, List.set_cons_zero, List.set_cons_succ]
            refine takeT (i := 6) (v := ?_) (some 61) rfl rfl (by kernel_rfl) (by kernel_rfl) (by kernel_rfl) (by rfl) (fun _ _ _ h => h) ?_ (by assumption) ?_
            rotate_left 1
            focus (intro w hSw; (try dsimp only at hSw); go_simp; (try (with_reducible rfl)))
            simp only [Act.put, List.setIfInBounds_toArray, List.set_cons_zero, List.set_cons_succ]
            refine takeU (i := 7) (some 62) rfl rfl (by kernel_rfl) (by kernel_rfl) (by kernel_rfl) (by rfl) (fun _ _ _ h => h) (by assumption) ?_
            simp only [Act.put, List.setIfInBounds_toArray, List.set_cons_zero, List.set_cons_succ]
            refine takeU (i := 8) (some 63) rfl rfl (by kernel_rfl) (by kernel_rfl) (by kernel_rfl) (by rfl) (fun _ _ _ h => h) (by assumption) ?_
            simp only [Act.put, List.setIfInBounds_toArray, List.set_cons_zero, List.set_cons_succ]
            refine takeU (i := 9) (some 64) rfl rfl (by kernel_rfl) (by kernel_rfl) (by kernel_rfl) (by rfl) (fun _ _ _ h => h) (by assumption) ?_
            simp only [Act.put, List.setIfInBounds_toArray, List.set_cons_zero, List.set_cons_succ]
            refine takeU (i := 10) (some 65) rfl rfl (by kernel_rfl) (by kernel_rfl) (by kernel_rfl) (by rfl) (fun _ _ _ h => h) (by assumption) ?_
            simp only [Act.put, List.setIfInBounds_toArray, List.set_cons_zero, List.set_cons_succ]
            refine takeU (i := 11) (some 66) rfl rfl (by kernel_rfl) (by kernel_rfl) (by kernel_rfl) (by rfl) (fun _ _ _ h => h) (by assumption) ?_
            simp only [Act.put, List.setIfInBounds_toArray, List.set_cons_zero, List.set_cons_succ]
            refine takeU (i := 12) (some 67) rfl rfl (by kernel_rfl) (by kernel_rfl) (by kernel_rfl) (by rfl) (fun _ _ _ h => h) (by assumption) ?_
            simp only [Act.put, List.setIfInBounds_toArray, List.set_cons_zero, List.set_cons_succ]
            refine takeU (i := 13) (some 68) rfl rfl (by kernel_rfl) (by kernel_rfl) (by kernel_rfl) (by rfl) (fun _ _ _ h => h) (by assumption) ?_
            simp only [Act.put, List.setIfInBounds_toArray, List.set_cons_zero, List.set_cons_succ]
            refine takeU (i := 14) (some 69) rfl rfl (by kernel_rfl) (by kernel_rfl) (by kernel_rfl) (by rfl) (fun _ _ _ h => h) (by assumption) ?_
            simp only [Act.put, List.setIfInBounds_toArray, List.set_cons_zero, List.set_cons_succ]
            refine takeU (i := 15) (some 70) rfl rfl (by kernel_rfl) (by kernel_rfl) (by kernel_rfl) (by rfl) (fun _ _ _ h => h) (by assumption) ?_
            simp only [Act.put, List.setIfInBounds_toArray, List.set_cons_zero, List.set_cons_succ]
            refine takeT (i := 16) (v := ?_) (some 71) rfl rfl (by kernel_rfl) (by kernel_rfl) (by kernel_rfl) (by rfl) (fun _ _ _ h => h) ?_ (by assumption) ?_
            rotate_left 1
            focus (intro w hSw; (try dsimp only at hSw); go_simp; (try (with_reducible rfl)))
            simp only [Act.put, List.setIfInBounds_toArray, List.set_cons_zero, List.set_cons_succ]
            refine wpAnyH_done (by kernel_rfl) ?_ _
            refine NoPanic.normal ?_
            go_wp2_with fail
            go_roundw
            case rel =>
              refine ⟨k + 1, by omega, by go_num, Below.trans Hbw2.out (Below.mono (below_step HBB.out (show Below wb.heap.size wb w3 from (by (repeat (first | exact Below.refl _ _ | assumption | refine below_allocR ?_ _ | refine below_drewR ?_ | refine below_put3X ?_ ?_ _ _ _ | refine below_setG ?_ (by omega) | refine below_step ?_ (by assumption))); (first | done | fail)))) (Below.size Hbw2.out)), fun i hi => ?_⟩
              rcases Nat.lt_or_ge i k with h | h
              · exact Hrel.out i h
              · obtain rfl : i = k := by omega
                rw [Hok.out]; rfl
            case measure => simp [intOf]; omega
          | false =>
            cases v2 with
            | false =>
              go_wp2_with fail
              clear hwb
              have HS : Hid (∀ W : World, Below wb.heap.size wb W → W.cell? ⟨w.heap.size, 0, none⟩ = some (.slice A j cA) ∧ W.cell? ⟨b3, o3 + k * 3, none⟩ = some (.bool zz0) ∧ W.cell? ⟨b3, o3 + k * 3 + 1, none⟩ = some (.slice Z1 zz1 Z2) ∧ W.cell? ⟨b3, o3 + k * 3 + 2, none⟩ = some (.slice Z3 zz2 Z4) ∧ W.cell? ⟨wr.heap.size, 0, none⟩ = some (.bool bb0) ∧ W.cell? ⟨wr.heap.size, 1, none⟩ = some (.slice X1 bb1 X2) ∧ W.cell? ⟨wr.heap.size, 2, none⟩ = some (.slice X3 bb2 X4)) := fun W hW => ⟨keep_cell hW CC.out.1, keep_cell hW CC.out.2.1, keep_cell hW CC.out.2.2.1, keep_cell hW CC.out.2.2.2.1, keep_cell hW CC.out.2.2.2.2.1, keep_cell hW CC.out.2.2.2.2.2.1, keep_cell hW CC.out.2.2.2.2.2.2⟩
              have D3 : Hid (∀ W : World, Below wb.heap.size wb W → Calls Tryd.prog 61 #[.agg #[.bool zz0, .slice Z1 zz1 Z2, .slice Z3 zz2 Z4]] W (fun e w' => e = .returned (.int .i64 g) ∧ Below W.heap.size W w')) := fun W hW => by rw [Hg.out]; exact sign_q (IsQ.stb.next QZ.out (below_step HBB.out hW))
              go_region_held3 (fun w' => w'.cell? ⟨w.heap.size, 0, none⟩ = some (.slice A j cA) ∧ w'.cell? ⟨b3, o3 + k * 3, none⟩ = some (.bool zz0) ∧ w'.cell? ⟨b3, o3 + k * 3 + 1, none⟩ = some (.slice Z1 zz1 Z2) ∧ w'.cell? ⟨b3, o3 + k * 3 + 2, none⟩ = some (.slice Z3 zz2 Z4) ∧ w'.cell? ⟨wr.heap.size, 0, none⟩ = some (.bool bb0) ∧ w'.cell? ⟨wr.heap.size, 1, none⟩ = some (.slice X1 bb1 X2) ∧ w'.cell? ⟨wr.heap.size, 2, none⟩ = some (.slice X3 bb2 X4))
                (exact HS.out _ (by (repeat (first | exact Below.refl _ _ | assumption | refine below_allocR ?_ _ | refine below_drewR ?_ | refine below_put3X ?_ ?_ _ _ _ | refine below_setG ?_ (by omega) | refine below_step ?_ (by assumption))); (first | done | fail)))
                (first
                  | (go_at_call 61; (with_reducible refine Calls.mono (D3.out _ (by (repeat (first | exact Below.refl _ _ | assumption | refine below_allocR ?_ _ | refine below_drewR ?_ | refine below_put3X ?_ ?_ _ _ _ | refine below_setG ?_ (by omega) | refine below_step ?_ (by assumption))); (first | done | fail))) ?_); rintro e w3 ⟨rfl, hb3⟩; have D4 : Hid (∀ W : World, Below w3.heap.size w3 W → Calls Tryd.prog 53 #[.slice A j cA, .int .i64 (k : Int)] W (fun e w' => (∃ v', e = .returned v' ∧ IsV w' (Old w') v' (rawV (colQ q.A k))) ∧ Below W.heap.size W w')) := fun W hW => column_l (n := n) (IsM.stb.next QA.out (below_step HBB.out (show Below wb.heap.size wb W from (by (repeat (first | exact Below.refl _ _ | assumption | refine below_allocR ?_ _ | refine below_drewR ?_ | refine below_put3X ?_ ?_ _ _ _ | refine below_setG ?_ (by omega) | refine below_step ?_ (by assumption))); (first | done | fail))))) (by rw [HG.out.rows, ← HM.out]; omega) (fun row h => (HG.out.cols row h).trans Hn.out.symm) Hlt.out (by omega))
                  | (go_at_call 53; (with_reducible refine Calls.mono (D4.out _ (by (repeat (first | exact Below.refl _ _ | assumption | refine below_allocR ?_ _ | refine below_drewR ?_ | refine below_put3X ?_ ?_ _ _ _ | refine below_setG ?_ (by omega) | refine below_step ?_ (by assumption))); (first | done | fail))) ?_); rintro e w4 ⟨⟨v4, rfl, hv4⟩, hb4⟩; have V4 := Lib.hid hv4; obtain ⟨P4, k4, rfl, _⟩ := isV_len hv4; have D5 : Hid (∀ W : World, Below w4.heap.size w4 W → Calls Tryd.prog 57 #[.slice P4 (rawV (colQ q.A k)).length k4, .slice F j f1] W (RetQ W d)) := fun W hW => by rw [Hd.out]; exact dot_q (M := j) (IsV.stb.next V4.out hW) (IsV.stb.next QY.out (below_step HBB.out (show Below wb.heap.size wb W from (by (repeat (first | exact Below.refl _ _ | assumption | refine below_allocR ?_ _ | refine below_drewR ?_ | refine below_put3X ?_ ?_ _ _ _ | refine below_setG ?_ (by omega) | refine below_step ?_ (by assumption))); (first | done | fail))))) (Bru.next BW.out (below_step HBB.out (show Below wb.heap.size wb W from (by (repeat (first | exact Below.refl _ _ | assumption | refine below_allocR ?_ _ | refine below_drewR ?_ | refine below_put3X ?_ ?_ _ _ _ | refine below_setG ?_ (by omega) | refine below_step ?_ (by assumption))); (first | done | fail))))) (by rw [colQ_len, HG.out.rows, ← HM.out]) (Hly.out.trans HM.out.symm) hM40 (colQ_sz HG.out.szA (by omega)) Hsy.out)
                  | (go_at_call 57; (with_reducible refine Calls.mono (D5.out _ (by (repeat (first | exact Below.refl _ _ | assumption | refine below_allocR ?_ _ | refine below_drewR ?_ | refine below_put3X ?_ ?_ _ _ _ | refine below_setG ?_ (by omega) | refine below_step ?_ (by assumption))); (first | done | fail))) ?_); rintro e w5 ⟨⟨v5, rfl, hv5⟩, hb5⟩; have V5 := Lib.hid (IsQ.stb.old hv5); obtain ⟨s5, P5, k5, O5, l5, rfl, _, _, _⟩ := isQ_open hv5; have D6 : Hid (∀ W : World, Below w5.heap.size w5 W → Calls Tryd.prog 56 #[.agg #[.bool s5, .slice P5 (lim d.num.natAbs).length k5, .slice O5 (lim d.den).length l5], .agg #[.bool bb0, .slice X1 bb1 X2, .slice X3 bb2 X4]] W (fun e w' => e = .returned (.int .i64 o) ∧ Below W.heap.size W w')) := fun W hW => by rw [Ho.out]; exact order_q (IsQ.stb.next V5.out hW) (IsQ.stb.next QC.out (below_step HBB.out (show Below wb.heap.size wb W from (by (repeat (first | exact Below.refl _ _ | assumption | refine below_allocR ?_ _ | refine below_drewR ?_ | refine below_put3X ?_ ?_ _ _ _ | refine below_setG ?_ (by omega) | refine below_step ?_ (by assumption))); (first | done | fail))))) Hsd.out Hsb.out)
                  | (go_at_call 56; (with_reducible refine Calls.mono (D6.out _ (by (repeat (first | exact Below.refl _ _ | assumption | refine below_allocR ?_ _ | refine below_drewR ?_ | refine below_put3X ?_ ?_ _ _ _ | refine below_setG ?_ (by omega) | refine below_step ?_ (by assumption))); (first | done | fail))) ?_); rintro e w6 ⟨rfl, hb6⟩))
              go_wp2_with fail
              have Hr : Hid (slackB q.A q.B q.C x y = false) := by rw [Hid, slackB_eq, all_range_not (n := q.C.length) (k := k) (by rw [← Hn.out]; exact Hlt.out) Hok.out, Bool.and_false]
              go_ret2
              exact ⟨by rw [Hr.out]; rfl, below_step HW.out (Below.trans Hbw2.out (Below.mono (below_step HBB.out (show Below wb.heap.size wb w6 from (by (repeat (first | exact Below.refl _ _ | assumption | refine below_allocR ?_ _ | refine below_drewR ?_ | refine below_put3X ?_ ?_ _ _ _ | refine below_setG ?_ (by omega) | refine below_step ?_ (by assumption))); (first | done | fail)))) (Below.size Hbw2.out)))⟩
            | true =>
              go_wp2_with fail
              clear hwb
              have HS : Hid (∀ W : World, Below wb.heap.size wb W → W.cell? ⟨w.heap.size, 0, none⟩ = some (.slice A j cA) ∧ W.cell? ⟨b3, o3 + k * 3, none⟩ = some (.bool zz0) ∧ W.cell? ⟨b3, o3 + k * 3 + 1, none⟩ = some (.slice Z1 zz1 Z2) ∧ W.cell? ⟨b3, o3 + k * 3 + 2, none⟩ = some (.slice Z3 zz2 Z4) ∧ W.cell? ⟨wr.heap.size, 0, none⟩ = some (.bool bb0) ∧ W.cell? ⟨wr.heap.size, 1, none⟩ = some (.slice X1 bb1 X2) ∧ W.cell? ⟨wr.heap.size, 2, none⟩ = some (.slice X3 bb2 X4)) := fun W hW => ⟨keep_cell hW CC.out.1, keep_cell hW CC.out.2.1, keep_cell hW CC.out.2.2.1, keep_cell hW CC.out.2.2.2.1, keep_cell hW CC.out.2.2.2.2.1, keep_cell hW CC.out.2.2.2.2.2.1, keep_cell hW CC.out.2.2.2.2.2.2⟩
              have D3 : Hid (∀ W : World, Below wb.heap.size wb W → Calls Tryd.prog 61 #[.agg #[.bool zz0, .slice Z1 zz1 Z2, .slice Z3 zz2 Z4]] W (fun e w' => e = .returned (.int .i64 g) ∧ Below W.heap.size W w')) := fun W hW => by rw [Hg.out]; exact sign_q (IsQ.stb.next QZ.out (below_step HBB.out hW))
              go_region_held3 (fun w' => w'.cell? ⟨w.heap.size, 0, none⟩ = some (.slice A j cA) ∧ w'.cell? ⟨b3, o3 + k * 3, none⟩ = some (.bool zz0) ∧ w'.cell? ⟨b3, o3 + k * 3 + 1, none⟩ = some (.slice Z1 zz1 Z2) ∧ w'.cell? ⟨b3, o3 + k * 3 + 2, none⟩ = some (.slice Z3 zz2 Z4) ∧ w'.cell? ⟨wr.heap.size, 0, none⟩ = some (.bool bb0) ∧ w'.cell? ⟨wr.heap.size, 1, none⟩ = some (.slice X1 bb1 X2) ∧ w'.cell? ⟨wr.heap.size, 2, none⟩ = some (.slice X3 bb2 X4))
                (exact HS.out _ (by (repeat (first | exact Below.refl _ _ | assumption | refine below_allocR ?_ _ | refine below_drewR ?_ | refine below_put3X ?_ ?_ _ _ _ | refine below_setG ?_ (by omega) | refine below_step ?_ (by assumption))); (first | done | fail)))
                (first
                  | (go_at_call 61; (with_reducible refine Calls.mono (D3.out _ (by (repeat (first | exact Below.refl _ _ | assumption | refine below_allocR ?_ _ | refine below_drewR ?_ | refine below_put3X ?_ ?_ _ _ _ | refine below_setG ?_ (by omega) | refine below_step ?_ (by assumption))); (first | done | fail))) ?_); rintro e w3 ⟨rfl, hb3⟩; have D4 : Hid (∀ W : World, Below w3.heap.size w3 W → Calls Tryd.prog 53 #[.slice A j cA, .int .i64 (k : Int)] W (fun e w' => (∃ v', e = .returned v' ∧ IsV w' (Old w') v' (rawV (colQ q.A k))) ∧ Below W.heap.size W w')) := fun W hW => column_l (n := n) (IsM.stb.next QA.out (below_step HBB.out (show Below wb.heap.size wb W from (by (repeat (first | exact Below.refl _ _ | assumption | refine below_allocR ?_ _ | refine below_drewR ?_ | refine below_put3X ?_ ?_ _ _ _ | refine below_setG ?_ (by omega) | refine below_step ?_ (by assumption))); (first | done | fail))))) (by rw [HG.out.rows, ← HM.out]; omega) (fun row h => (HG.out.cols row h).trans Hn.out.symm) Hlt.out (by omega))
                  | (go_at_call 53; (with_reducible refine Calls.mono (D4.out _ (by (repeat (first | exact Below.refl _ _ | assumption | refine below_allocR ?_ _ | refine below_drewR ?_ | refine below_put3X ?_ ?_ _ _ _ | refine below_setG ?_ (by omega) | refine below_step ?_ (by assumption))); (first | done | fail))) ?_); rintro e w4 ⟨⟨v4, rfl, hv4⟩, hb4⟩; have V4 := Lib.hid hv4; obtain ⟨P4, k4, rfl, _⟩ := isV_len hv4; have D5 : Hid (∀ W : World, Below w4.heap.size w4 W → Calls Tryd.prog 57 #[.slice P4 (rawV (colQ q.A k)).length k4, .slice F j f1] W (RetQ W d)) := fun W hW => by rw [Hd.out]; exact dot_q (M := j) (IsV.stb.next V4.out hW) (IsV.stb.next QY.out (below_step HBB.out (show Below wb.heap.size wb W from (by (repeat (first | exact Below.refl _ _ | assumption | refine below_allocR ?_ _ | refine below_drewR ?_ | refine below_put3X ?_ ?_ _ _ _ | refine below_setG ?_ (by omega) | refine below_step ?_ (by assumption))); (first | done | fail))))) (Bru.next BW.out (below_step HBB.out (show Below wb.heap.size wb W from (by (repeat (first | exact Below.refl _ _ | assumption | refine below_allocR ?_ _ | refine below_drewR ?_ | refine below_put3X ?_ ?_ _ _ _ | refine below_setG ?_ (by omega) | refine below_step ?_ (by assumption))); (first | done | fail))))) (by rw [colQ_len, HG.out.rows, ← HM.out]) (Hly.out.trans HM.out.symm) hM40 (colQ_sz HG.out.szA (by omega)) Hsy.out)
                  | (go_at_call 57; (with_reducible refine Calls.mono (D5.out _ (by (repeat (first | exact Below.refl _ _ | assumption | refine below_allocR ?_ _ | refine below_drewR ?_ | refine below_put3X ?_ ?_ _ _ _ | refine below_setG ?_ (by omega) | refine below_step ?_ (by assumption))); (first | done | fail))) ?_); rintro e w5 ⟨⟨v5, rfl, hv5⟩, hb5⟩; have V5 := Lib.hid (IsQ.stb.old hv5); obtain ⟨s5, P5, k5, O5, l5, rfl, _, _, _⟩ := isQ_open hv5; have D6 : Hid (∀ W : World, Below w5.heap.size w5 W → Calls Tryd.prog 56 #[.agg #[.bool s5, .slice P5 (lim d.num.natAbs).length k5, .slice O5 (lim d.den).length l5], .agg #[.bool bb0, .slice X1 bb1 X2, .slice X3 bb2 X4]] W (fun e w' => e = .returned (.int .i64 o) ∧ Below W.heap.size W w')) := fun W hW => by rw [Ho.out]; exact order_q (IsQ.stb.next V5.out hW) (IsQ.stb.next QC.out (below_step HBB.out (show Below wb.heap.size wb W from (by (repeat (first | exact Below.refl _ _ | assumption | refine below_allocR ?_ _ | refine below_drewR ?_ | refine below_put3X ?_ ?_ _ _ _ | refine below_setG ?_ (by omega) | refine below_step ?_ (by assumption))); (first | done | fail))))) Hsd.out Hsb.out)
                  | (go_at_call 56; (with_reducible refine Calls.mono (D6.out _ (by (repeat (first | exact Below.refl _ _ | assumption | refine below_allocR ?_ _ | refine below_drewR ?_ | refine below_put3X ?_ ?_ _ _ _ | refine below_setG ?_ (by omega) | refine below_step ?_ (by assumption))); (first | done | fail))) ?_); rintro e w6 ⟨rfl, hb6⟩))
              go_wp2_with fail
              go_roundw
              case rel =>
                refine ⟨k + 1, by omega, by go_num, Below.trans Hbw2.out (Below.mono (below_step HBB.out (show Below wb.heap.size wb w6 from (by (repeat (first | exact Below.refl _ _ | assumption | refine below_allocR ?_ _ | refine below_drewR ?_ | refine below_put3X ?_ ?_ _ _ _ | refine below_setG ?_ (by omega) | refine below_step ?_ (by assumption))); (first | done | fail)))) (Below.size Hbw2.out)), fun i hi => ?_⟩
                rcases Nat.lt_or_ge i k with h | h
                · exact Hrel.out i h
                · obtain rfl : i = k := by omega
                  rw [Hok.out]; rfl
              case measure => simp [intOf]; omega
        · obtain rfl : k = n := by omega
          have Hr : Hid (slackB q.A q.B q.C x y = true) := by rw [Hid, slackB_eq, Hrows.out, all_range_of (by rw [← Hn.out]; exact Hrel.out)]; rfl
          clear hbw2
          go_wp2_with fail
          go_ret2
          exact ⟨by rw [Hr.out]; rfl, HW2.out⟩
end Go.Proofs.YtblpaocignlpkaaDoor
