/-
  The contracts of the reference's Feasible and Tight.
-/
import Derived.Test.YtblpaocignlpkaaGreatDoorProofDualCalls07
import Derived.Test.YtblpaocignlpkaaGreatDoorBase17
import Derived.Test.YtblpaocignlpkaaGreatDoorProofDualCalls01
namespace Go.Proofs.YtblpaocignlpkaaGreatDoor
open Go.RowKit
set_option linter.unusedVariables false

set_option maxRecDepth 100000 in
set_option maxHeartbeats 1000000 in
theorem rfeasible_bad {w : World} {vp vx : Value} {p : Prog} {x : List Raw} (hp : IsP w (Old w) vp p) (hx : IsV w (Old w) vx x) (h0 : givE p [p.C.length] [x] ≠ 0) :
    Calls Tryz.prog 25 #[vp, vx] w fun e w' => e = .returned (.tuple #[.bool false, .int .i64 (givE p [p.C.length] [x])]) ∧ Below w.heap.size w w' := by
  have HX := Lib.hid hx
  have HP := Lib.hid hp
  obtain ⟨A, cA, B, cB, C, cC, rfl, _, _, hC⟩ := id hp
  obtain ⟨D, d, rfl, _⟩ := isV_len hx
  have mC := (isV_len hC).choose_spec.choose_spec.2
  obtain ⟨E, hE⟩ : ∃ E, E = givE p [p.C.length] [x] := ⟨_, rfl⟩
  rw [← hE] at h0 ⊢
  have HE := Lib.hid hE
  clear hp hx hC hE
  obtain ⟨w0, hw0, hb0, rP, Hz⟩ := boxes1 w #[.slice A p.A.length cA, .slice B p.B.length cB, .slice C p.C.length cC] 27
  have HB0 := Lib.hid hb0
  obtain ⟨cP0, cP1, cP2⟩ := cells3 rP
  have e0 : (E != 0) = true := bne_iff_ne.2 h0
  clear h0 rP hb0
  go_enter Tryz.func25, Tryz.ntmps25
  go_wp2_with fail
  clear hw0
  refine (rone_l (IsP.stb.to HP.out (same_old HB0.out)) (IsV.stb.to HX.out (same_old HB0.out)) mC).mono ?_
  rw [← HE.out]
  rintro e w1 ⟨rfl, hb⟩
  have HB1 := Lib.hid (below_step HB0.out hb)
  clear cP0 cP1 cP2 hb
  go_wp2_with fail
  go_ret2
  exact ⟨rfl, HB1.out⟩

set_option maxRecDepth 100000 in
set_option maxHeartbeats 1000000 in
theorem rfeasible_good {w : World} {vp vx : Value} {q : ProgQ} {x : List Rat} (hp : IsP w (Old w) vp (rawP q)) (hx : IsV w (Old w) vx (rawV x)) (hg : Good q 1024) (h0 : givE (rawP q) [(rawP q).C.length] [rawV x] = 0) (hl : x.length = q.C.length) (hsx : ∀ e ∈ x, Sz e 1024) :
    Calls Tryz.prog 25 #[vp, vx] w fun e w' => e = .returned (.tuple #[.bool (feasB q.A q.B x), .int .i64 0]) ∧ Below w.heap.size w w' := by
  obtain ⟨p, hpp⟩ : ∃ p, p = rawP q := ⟨_, rfl⟩
  have HQ := Lib.hid hp
  have HX := Lib.hid hx
  have HG := Lib.hid hg
  have Hl := Lib.hid hl
  have Hsx := Lib.hid hsx
  have hp' := hp
  rw [← hpp] at hp' h0
  have HP := Lib.hid hp'
  have HE := Lib.hid h0
  obtain ⟨A, cA, B, cB, C, cC, rfl, _, _, hC⟩ := id hp'
  obtain ⟨D, d, rfl, _⟩ := isV_len hx
  have mC := (isV_len hC).choose_spec.choose_spec.2
  have HF1 : Hid (∀ W : World, Below w.heap.size w W → Calls Tryz.prog 77 #[.agg #[.slice A p.A.length cA, .slice B p.B.length cB, .slice C p.C.length cC], .slice D (rawV x).length d] W fun e w' => e = .returned (.bool (feasB q.A q.B x)) ∧ Below W.heap.size W w') := fun W hW => by
    rw [feas_rest]
    exact rfeas_l (CC := rawV q.C) (IsP.stb.to HQ.out (same_old hW)) (IsV.stb.to HX.out (same_old hW)) HG.out.rows (fun row h => (HG.out.cols row h).trans Hl.out.symm) HG.out.szA HG.out.szB Hsx.out (by rw [Hl.out]; exact HG.out.nC) HG.out.nB
  clear hp hx hC h0 hp' hpp hg hl hsx
  obtain ⟨w0, hw0, hb0, rP, Hz⟩ := boxes1 w #[.slice A p.A.length cA, .slice B p.B.length cB, .slice C p.C.length cC] 27
  have HB0 := Lib.hid hb0
  have RP := Lib.hid rP
  obtain ⟨cP0, cP1, cP2⟩ := cells3 rP
  clear rP hb0
  go_enter Tryz.func25, Tryz.ntmps25
  go_wp2_with fail
  clear hw0
  refine (rone_l (IsP.stb.to HP.out (same_old HB0.out)) (IsV.stb.to HX.out (same_old HB0.out)) mC).mono ?_
  rw [HE.out]
  rintro e w1 ⟨rfl, hb⟩
  have HB1 := Lib.hid (below_step HB0.out hb)
  have RP1 := Lib.hid (RP.out.next hb)
  clear cP0 cP1 cP2 hb
  obtain ⟨cP0, cP1, cP2⟩ := cells3 RP1.out
  go_wp2_with fail
  refine (HF1.out _ HB1.out).mono ?_
  rintro e w2 ⟨rfl, hb⟩
  have HB2 := Lib.hid (below_step HB1.out hb)
  clear cP0 cP1 cP2 hb
  go_wp2_with fail
  go_ret2
  exact ⟨rfl, HB2.out⟩

set_option maxRecDepth 100000 in
set_option maxHeartbeats 1000000 in
theorem rtight_err {w : World} {vp vx : Value} {p : Prog} {x : List Raw} (hp : IsP w (Old w) vp p) (hx : IsV w (Old w) vx x) (h0 : givE p [p.C.length] [x] ≠ 0) :
    Calls Tryz.prog 27 #[vp, vx] w fun e w' => e = .returned (.tuple #[.slice none 0 0, .int .i64 (givE p [p.C.length] [x])]) ∧ Below w.heap.size w w' := by
  have HX := Lib.hid hx
  have HP := Lib.hid hp
  have H0 := Lib.hid h0
  obtain ⟨A, cA, B, cB, C, cC, rfl, _, _, _⟩ := hp
  obtain ⟨D, d, rfl, _⟩ := isV_len hx
  obtain ⟨E, hE⟩ : ∃ E, E = givE p [p.C.length] [x] := ⟨_, rfl⟩
  rw [← hE] at h0 ⊢
  have HE := Lib.hid hE
  clear hx hE
  obtain ⟨w0, hw0, hb0, rP, Hz⟩ := boxes1 w #[.slice A p.A.length cA, .slice B p.B.length cB, .slice C p.C.length cC] 27
  have HB0 := Lib.hid hb0
  obtain ⟨cP0, cP1, cP2⟩ := cells3 rP
  have e0 : (E != 0) = true := bne_iff_ne.2 h0
  clear h0 rP hb0
  go_enter Tryz.func27, Tryz.ntmps27
  go_wp2_with fail
  clear hw0
  refine (rfeasible_bad (IsP.stb.to HP.out (same_old HB0.out)) (IsV.stb.to HX.out (same_old HB0.out)) H0.out).mono ?_
  rw [← HE.out]
  rintro e w1 ⟨rfl, hb⟩
  have HB1 := Lib.hid (below_step HB0.out hb)
  clear cP0 cP1 cP2 hb
  go_wp2_with fail
  go_ret2
  exact ⟨rfl, HB1.out⟩

set_option maxRecDepth 100000 in
set_option maxHeartbeats 4000000 in
theorem rtight_good {w : World} {vp vx : Value} {q : ProgQ} {x : List Rat} (hp : IsP w (Old w) vp (rawP q)) (hx : IsV w (Old w) vx (rawV x)) (hg : Good q 1024) (h0 : givE (rawP q) [(rawP q).C.length] [rawV x] = 0) (hl : x.length = q.C.length) (hsx : ∀ e ∈ x, Sz e 1024) :
    Calls Tryz.prog 27 #[vp, vx] w fun e w' => (∃ v, e = .returned (.tuple #[v, .int .i64 (tightE q x)]) ∧ IsIs w' (Old w') v (tightR q x)) ∧ Below w.heap.size w w' := by
  have HX := Lib.hid hx
  have HG := Lib.hid hg
  have HF : Hid (∀ W, Below w.heap.size w W → Calls Tryz.prog 25 #[vp, vx] W fun e w' => e = .returned (.tuple #[.bool (feasB q.A q.B x), .int .i64 0]) ∧ Below W.heap.size W w') := fun W h => rfeasible_good (IsP.stb.to hp (same_old h)) (IsV.stb.to hx (same_old h)) hg h0 hl hsx
  have HR1 : Hid (∀ W : World, Below w.heap.size w W → Calls Tryz.prog 67 #[vp, vx] W fun e w' => (∃ v', e = .returned v' ∧ IsV w' (Old w') v' (rawV (restQ q.A q.B x))) ∧ Below W.heap.size W w') :=
    fun W hW => rrest_l (CC := rawV q.C) (IsP.stb.to hp (same_old hW)) (IsV.stb.to hx (same_old hW)) hg.rows (fun row h => (hg.cols row h).trans hl.symm) hg.szA hg.szB hsx (by rw [hl]; exact hg.nC) hg.nB
  have l3 : (rawV (restQ q.A q.B x)).length = q.B.length := by rw [rawV_len, restQ_len hg.rows]
  have L3 := Lib.hid l3
  have mB := hg.nB
  obtain ⟨A, cA, B, cB, C, cC, rfl, hA, hBv, hC⟩ := hp
  obtain ⟨D, d, rfl, hxl⟩ := isV_len hx
  simp only [rawP, rawV_len, rawM_len] at HF HR1 ⊢
  obtain ⟨M, hM⟩ : ∃ m, m = q.B.length := ⟨_, rfl⟩
  rw [hg.rows] at HF HR1 ⊢
  unfold tightE tightR
  rw [← hM] at HF HR1 mB l3 ⊢
  have HM := Lib.hid hM
  obtain ⟨b1, hb1⟩ : ∃ b, b = feasB q.A q.B x := ⟨_, rfl⟩
  rw [← hb1] at HF ⊢
  clear hx hA hBv hC hg h0 hl hsx hxl hM hb1 L3
  obtain ⟨w0, hw0, hb0, rP, Hz⟩ := boxes1 w #[.slice A M cA, .slice B M cB, .slice C q.C.length cC] 27
  have HB0 := Lib.hid hb0
  have RP := Lib.hid rP
  obtain ⟨cP0, cP1, cP2⟩ := cells3 rP
  clear rP hb0
  go_enter Tryz.func27, Tryz.ntmps27
  go_wp2_with fail
  clear hw0
  refine (HF.out _ HB0.out).mono ?_
  rintro e w1 ⟨rfl, hb⟩
  have HB1 := Lib.hid (below_step HB0.out hb)
  have RP1 := Lib.hid (RP.out.next hb)
  clear hb cP0 cP1 cP2
  obtain ⟨cP0, cP1, cP2⟩ := cells3 RP1.out
  cases b1 with
  | false =>
    go_wp2_with fail
    go_ret2
    exact ⟨⟨_, rfl, IsS.nil⟩, HB1.out⟩
  | true =>
    go_wp2_with fail
    refine (HR1.out _ HB1.out).mono ?_
    rintro e w3 ⟨⟨v3, rfl, h3⟩, hb⟩
    have HB3 := Lib.hid (below_step HB1.out hb)
    have V3 := Lib.hid h3
    obtain ⟨P3, k3, rfl, _⟩ := isV_len h3
    rw [l3] at V3 ⊢
    clear hb h3 cP0 cP1 cP2 l3
    go_wp2_with fail
    go_loopw [10, 8] (fun i ov wr => ∃ j : Nat, j ≤ M ∧ i = .int .i64 (j : Int) ∧ Below w3.heap.size w3 wr ∧ Hid (OwnS 1 3 IsI wr w3.heap.size (fun _ => False) ov (tightTo q.A q.B x j))) (fun i _ _ => M - (intOf i).toNat)
    case atStart => exact ⟨0, Nat.zero_le _, rfl, Below.refl _ _, OwnS.nil (fun b hb => hb.elim)⟩
    case round =>
      obtain ⟨j, hj, rfl, hbw, hrel⟩ := hrel
      have Hbw := Lib.hid hbw
      have Own := Lib.hid hrel.out
      clear hrel
      rcases Nat.lt_or_ge j M with hlt | hge
      · obtain ⟨row, hr, _⟩ := rawM_get (m := q.A) (j := j) (by rw [HG.out.rows, ← HM.out]; exact hlt)
        obtain ⟨b, hb, _⟩ := rawV_get (l := q.B) (j := j) (by rw [← HM.out]; exact hlt)
        have hrs : (rawV (restQ q.A q.B x))[j]? = some (raw (b - dotQ row x)) := by unfold rawV; rw [List.getElem?_map, restQ_get hr hb]; rfl
        obtain ⟨dd, hd⟩ : ∃ d, d = b - dotQ row x := ⟨_, rfl⟩
        rw [← hd] at hrs
        obtain ⟨b1, o1, X1, X2, X3, X4, rfl, _, helb, c0, c1, c2⟩ := isV_get (IsV.stb.to V3.out (same_old hbw)) hrs
        have QD := Lib.hid (isR_isQ helb)
        have Hok : Hid (isTight q.A q.B x j = decide (dd = 0)) := by rw [Hid, isTight, getD_some hb, getD_row hr, hd, sub_zero_iff]
        obtain ⟨v2, hv2⟩ : ∃ v, v = decide (dd = 0) := ⟨_, rfl⟩
        have Hv2 := Lib.hid hv2
        rw [← hv2] at Hok
        have cr := ratCells
        have Hlt := Lib.hid hlt
        clear hr hb hrs helb hd hv2 hbw
        go_wp2_with fail
        refine (rzero_q QD.out).mono ?_
        rw [← Hv2.out]
        rintro e w5 ⟨rfl, hb5⟩
        have Hbw5 := Lib.hid (below_step Hbw.out hb5)
        have Own5 := Lib.hid (OwnS.step (T := fun _ => False) IsI.stb Own.out hb5 (fun _ h => h) (fun _ h => h.elim))
        have hbase : w3.heap.size ≤ w5.heap.size := Hbw5.out.size
        clear hb5 c0 c1 c2
        cases v2 with
        | false =>
          go_wp2_with fail
          go_roundw
          case rel => exact ⟨j + 1, by have := Hlt.out; omega, by go_num, Hbw5.out, by rw [Hid, tightTo_out Hok.out]; exact Own5.out⟩
          case measure => have := Hlt.out; simp [intOf]; omega
        | true =>
          go_wp2_with (at_builtin; refine wp_appS elI rfl _ _ rfl IsI.stb rfl rfl rfl Own5.out (show IsI w5 (fun _ => False) (.int .i64 (j : Int)) j from rfl) rfl (by intro u hu; simp [Value.cells] at hu; subst hu; rfl) (by have h1 := tightTo_len q.A q.B x j; have := Hlt.out; omega) hbase ?_; intro v6 w6 hown6 hb6 hz6)
          go_roundw
          case rel => exact ⟨j + 1, by have := Hlt.out; omega, by go_num, Hbw5.out.trans hb6, by rw [Hid, tightTo_in Hok.out]; exact hown6⟩
          case measure => have := Hlt.out; simp [intOf]; omega
      · obtain rfl : j = M := by omega
        clear hbw
        go_wp2_with fail
        go_ret2
        exact ⟨⟨_, rfl, OwnS.isS IsI.stb (T := Old wr) Own.out (fun b hb => hb.elim) (fun b h1 h2 => h2)⟩, below_step HB3.out Hbw.out⟩
end Go.Proofs.YtblpaocignlpkaaGreatDoor
/-
  The walk of the law DualCalls.
-/
namespace Go.Proofs.YtblpaocignlpkaaGreatDoor
open Go.RowKit
set_option linter.unusedVariables false

/-- What functions answer in every later world: a program and an error; a truth and an error; numbers and an error. -/
def OfC (w : World) (f : FuncId) (args : Array Value) (g : Prog) (e : Int) : Prop := ∀ W, Below w.heap.size w W → Calls Tryz.prog f args W fun en w' => (∃ v, en = .returned (.tuple #[v, .int .i64 e]) ∧ IsP w' (Old w') v g) ∧ Below W.heap.size W w'
def FeasC (w : World) (f : FuncId) (args : Array Value) (b : Bool) (e : Int) : Prop := ∀ W, Below w.heap.size w W → Calls Tryz.prog f args W fun en w' => en = .returned (.tuple #[.bool b, .int .i64 e]) ∧ Below W.heap.size W w'
def TightC (w : World) (f : FuncId) (args : Array Value) (l : List Nat) (e : Int) : Prop := ∀ W, Below w.heap.size w W → Calls Tryz.prog f args W fun en w' => (∃ v, en = .returned (.tuple #[v, .int .i64 e]) ∧ IsIs w' (Old w') v l) ∧ Below W.heap.size W w'

set_option maxRecDepth 100000 in
set_option maxHeartbeats 8000000 in
theorem law_dcalls_of {w : World} {vp vx : Value} {p : Prog} {x : List Raw} {g : Prog} {e1 e2 e3 : Int} {s : Bool} {l : List Nat} (hp : IsP w (Old w) vp p) (hx : IsV w (Old w) vx x) (hB : Bru w)
    (h1 : OfC w 22 #[vp] g e1) (h2 : OfC w 23 #[vp] g e1) (h3 : FeasC w 24 #[vp, vx] s e2) (h4 : FeasC w 25 #[vp, vx] s e2)
    (h5 : TightC w 26 #[vp, vx] l e3) (h6 : TightC w 27 #[vp, vx] l e3) :
    Calls Tryz.prog 5 #[vp, vx] w fun en w' => en = .returned (.bool true) ∧ Below w.heap.size w w' := by
  have HP := Lib.hid hp
  have HX := Lib.hid hx
  have HB := Lib.hid hB
  have C1 := Lib.hid h1
  have C2 := Lib.hid h2
  have C3 := Lib.hid h3
  have C4 := Lib.hid h4
  have C5 := Lib.hid h5
  have C6 := Lib.hid h6
  obtain ⟨A, cA, B, cB, C, cC, rfl, _, _, _⟩ := hp
  obtain ⟨X, cX, rfl, _⟩ := isV_len hx
  obtain ⟨lx, hlx⟩ : ∃ n, n = x.length := ⟨_, rfl⟩
  rw [← hlx] at HX C3 C4 C5 C6 ⊢
  clear h1 h2 h3 h4 h5 h6 hx hB hlx
  obtain ⟨w0, hw0, hb0, rP, Hz⟩ := boxes1 w #[.slice A p.A.length cA, .slice B p.B.length cB, .slice C p.C.length cC] 27
  obtain ⟨cP0, cP1, cP2⟩ := cells3 rP
  have B0 := Lib.hid hb0
  clear rP hb0
  go_enter Tryz.func5, Tryz.ntmps5
  go_wp2_with fail
  clear hw0
  refine (large_l (IsP.stb.to HP.out (same_old B0.out))).mono ?_
  rintro e w1 ⟨⟨b1, rfl⟩, hb⟩
  have B1 := Lib.hid (below_step B0.out hb)
  replace cP0 := keep_cell hb cP0
  replace cP1 := keep_cell hb cP1
  replace cP2 := keep_cell hb cP2
  clear hb
  cases b1 with
  | true =>
    go_wp2_with fail
    refine (awake5_l (Bru.next HB.out B1.out)).mono ?_
    rintro e wz ⟨rfl, hb⟩
    go_wp2_with fail
    go_ret
    exact ⟨rfl, below_step B1.out hb⟩
  | false =>
    go_wp2_with fail
    refine (long_l (m := 6) (IsV.stb.to HX.out (same_old B1.out))).mono ?_
    rintro e w2 ⟨⟨b2, rfl⟩, hb⟩
    have B2 := Lib.hid (below_step B1.out hb)
    replace cP0 := keep_cell hb cP0
    replace cP1 := keep_cell hb cP1
    replace cP2 := keep_cell hb cP2
    clear hb
    cases b2 with
    | true =>
      go_wp2_with fail
      refine (awake5_l (Bru.next HB.out B2.out)).mono ?_
      rintro e wz ⟨rfl, hb⟩
      go_wp2_with fail
      go_ret
      exact ⟨rfl, below_step B2.out hb⟩
    | false =>
      go_wp2_with fail
      refine (C1.out _ B2.out).mono ?_
      rintro e w3 ⟨⟨v3, rfl, hv⟩, hb⟩
      have B3a := Lib.hid (below_step B2.out hb)
      replace cP0 := keep_cell hb cP0
      replace cP1 := keep_cell hb cP1
      replace cP2 := keep_cell hb cP2
      have Vx := Lib.hid hv
      obtain ⟨P3, k3, Q3, l3, R3, m3, rfl, _⟩ := id hv
      clear hb hv
      obtain ⟨x3, hx3, hb, r3, _⟩ := boxes1 w3 #[.slice P3 g.A.length k3, .slice Q3 g.B.length l3, .slice R3 g.C.length m3] 27
      have B3 := Lib.hid (below_step B3a.out hb)
      have V3 := Lib.hid (IsP.stb.to Vx.out (same_old hb))
      replace cP0 := keep_cell hb cP0
      replace cP1 := keep_cell hb cP1
      replace cP2 := keep_cell hb cP2
      obtain ⟨u0, u1, u2⟩ := cells3 r3
      clear hb r3 Vx B3a
      go_wp2_with fail
      clear hx3
      refine (C2.out _ B3.out).mono ?_
      rintro e w4 ⟨⟨v4, rfl, hv⟩, hb⟩
      have B4a := Lib.hid (below_step B3.out hb)
      replace cP0 := keep_cell hb cP0
      replace cP1 := keep_cell hb cP1
      replace cP2 := keep_cell hb cP2
      have V3 := Lib.hid (IsP.stb.to V3.out (same_old hb))
      replace u0 := keep_cell hb u0
      replace u1 := keep_cell hb u1
      replace u2 := keep_cell hb u2
      have Vx := Lib.hid hv
      obtain ⟨P4, k4, Q4, l4, R4, m4, rfl, _⟩ := id hv
      clear hb hv
      obtain ⟨x4, hx4, hb, r4, _⟩ := boxes1 w4 #[.slice P4 g.A.length k4, .slice Q4 g.B.length l4, .slice R4 g.C.length m4] 27
      have B4 := Lib.hid (below_step B4a.out hb)
      have V4 := Lib.hid (IsP.stb.to Vx.out (same_old hb))
      replace cP0 := keep_cell hb cP0
      replace cP1 := keep_cell hb cP1
      replace cP2 := keep_cell hb cP2
      have V3 := Lib.hid (IsP.stb.to V3.out (same_old hb))
      replace u0 := keep_cell hb u0
      replace u1 := keep_cell hb u1
      replace u2 := keep_cell hb u2
      obtain ⟨t0, t1, t2⟩ := cells3 r4
      clear hb r4 Vx B4a
      go_wp2_with fail
      clear hx4
      have ee1 : (e1 != e1) = false := by simp
      refine (same_p V3.out V4.out).mono ?_
      rw [decide_eq_true rfl]
      rintro e w5 ⟨rfl, hb⟩
      have B5 := Lib.hid (below_step B4.out hb)
      replace cP0 := keep_cell hb cP0
      replace cP1 := keep_cell hb cP1
      replace cP2 := keep_cell hb cP2
      clear hb u0 u1 u2 t0 t1 t2 V3 V4
      go_wp2_with fail
      refine (C3.out _ B5.out).mono ?_
      rintro e w6 ⟨rfl, hb⟩
      have B6 := Lib.hid (below_step B5.out hb)
      replace cP0 := keep_cell hb cP0
      replace cP1 := keep_cell hb cP1
      replace cP2 := keep_cell hb cP2
      clear hb
      go_wp2_with fail
      refine (C4.out _ B6.out).mono ?_
      rintro e w7 ⟨rfl, hb⟩
      have B7 := Lib.hid (below_step B6.out hb)
      replace cP0 := keep_cell hb cP0
      replace cP1 := keep_cell hb cP1
      replace cP2 := keep_cell hb cP2
      clear hb
      go_wp2_with fail
      refine (C5.out _ B7.out).mono ?_
      rintro e w8 ⟨⟨v8, rfl, hv⟩, hb⟩
      have B8 := Lib.hid (below_step B7.out hb)
      have V8 := Lib.hid hv
      replace cP0 := keep_cell hb cP0
      replace cP1 := keep_cell hb cP1
      replace cP2 := keep_cell hb cP2
      clear hb hv
      go_wp2_with fail
      refine (C6.out _ B8.out).mono ?_
      rintro e w9 ⟨⟨v9, rfl, hv⟩, hb⟩
      have B9 := Lib.hid (below_step B8.out hb)
      have V9 := Lib.hid hv
      replace cP0 := keep_cell hb cP0
      replace cP1 := keep_cell hb cP1
      replace cP2 := keep_cell hb cP2
      have V8 := Lib.hid (IsIs.stb.to V8.out (same_old hb))
      clear hb hv
      clear cP0 cP1 cP2
      have es : (s == s) = true := beq_self_eq_true s
      have ee2 : (e2 == e2) = true := beq_self_eq_true e2
      have ee3 : (e3 == e3) = true := beq_self_eq_true e3
      go_wp2_with fail
      refine (alike_i V8.out V9.out).mono ?_
      rw [decide_eq_true rfl]
      rintro e w10 ⟨rfl, hb⟩
      have B10 := Lib.hid (below_step B9.out hb)
      clear hb V8 V9
      go_wp2_with fail
      refine (awake5_l (Bru.next HB.out B10.out)).mono ?_
      rintro e wz ⟨rfl, hb⟩
      go_wp2_with fail
      go_ret
      exact ⟨rfl, below_step B10.out hb⟩

theorem law_dcalls {w : World} {vp vx : Value} {p : Prog} {x : List Raw} (hp : IsP w (Old w) vp p) (hx : IsV w (Old w) vx x) (hB : Bru w) :
    Calls Tryz.prog 5 #[vp, vx] w fun en w' => en = .returned (.bool true) ∧ Below w.heap.size w w' := by
  have toP : ∀ W, Below w.heap.size w W → IsP W (Old W) vp p := fun W h => IsP.stb.to hp (same_old h)
  have toX : ∀ W, Below w.heap.size w W → IsV W (Old W) vx x := fun W h => IsV.stb.to hx (same_old h)
  have toB : ∀ W, Below w.heap.size w W → Bru W := fun W h => Bru.next hB h
  have c1 : ∃ g e, OfC w 22 #[vp] g e ∧ OfC w 23 #[vp] g e := by
    by_cases h0 : chkP p = 0
    case neg => exact ⟨nilP, _, fun W h => (of_bad (toP W h) (toB W h) h0).mono fun en w' ⟨e1, e2⟩ => ⟨⟨_, e1, isP_nil⟩, e2⟩, fun W h => (rof_bad (toP W h) h0).mono fun en w' ⟨e1, e2⟩ => ⟨⟨_, e1, isP_nil⟩, e2⟩⟩
    obtain ⟨q, rfl, hg⟩ := chkP_ok h0
    exact ⟨_, _, fun W h => of_good (toP W h) (toB W h) hg, fun W h => rof_good (toP W h) hg h0⟩
  have c2 : ∃ b e l e', FeasC w 24 #[vp, vx] b e ∧ FeasC w 25 #[vp, vx] b e ∧ TightC w 26 #[vp, vx] l e' ∧ TightC w 27 #[vp, vx] l e' := by
    by_cases h0 : givE p [p.C.length] [x] = 0
    case neg => exact ⟨_, _, [], _, fun W h => feasible_bad (toP W h) (toX W h) (toB W h) h0, fun W h => rfeasible_bad (toP W h) (toX W h) h0, fun W h => (tight_err (toP W h) (toX W h) (toB W h) h0).mono fun en w' ⟨e1, e2⟩ => ⟨⟨_, e1, IsS.nil⟩, e2⟩, fun W h => (rtight_err (toP W h) (toX W h) h0).mono fun en w' ⟨e1, e2⟩ => ⟨⟨_, e1, IsS.nil⟩, e2⟩⟩
    obtain ⟨q, xq, rfl, hg, rfl, hlx, hsx⟩ := givE_ok1 h0
    have hlx' : xq.length = q.C.length := by rw [hlx]; simp only [rawP, rawV_len]
    exact ⟨_, _, _, _, fun W h => feasible_good (toP W h) (toX W h) (toB W h) hg h0 hlx' hsx, fun W h => rfeasible_good (toP W h) (toX W h) hg h0 hlx' hsx, fun W h => tight_good (toP W h) (toX W h) (toB W h) hg h0 hlx' hsx, fun W h => rtight_good (toP W h) (toX W h) hg h0 hlx' hsx⟩
  obtain ⟨g, e1, h1, h2⟩ := c1
  obtain ⟨b, e2, l, e3, h3, h4, h5, h6⟩ := c2
  exact law_dcalls_of hp hx hB h1 h2 h3 h4 h5 h6
end Go.Proofs.YtblpaocignlpkaaGreatDoor
