/-
  The zbe of package dual's Gap.
-/
import Derived.Test.YtblpaocignlpkaaGreatDoorCore13
import Derived.Test.YtblpaocignlpkaaGreatDoorCore03
import Derived.Test.YtblpaocignlpkaaGreatDoorCore12
import Derived.Test.YtblpaocignlpkaaGreatDoorCore11
namespace Go.Proofs.YtblpaocignlpkaaGreatDoor
open Go.RowKit
set_option linter.unusedVariables false
def nilRaw : Raw := ⟨false, [], []⟩
theorem isR_nil {w : World} {S : Nat → Prop} : IsR w S (.agg #[.bool false, .slice none 0 0, .slice none 0 0]) nilRaw := by
  refine ⟨none, 0, none, 0, rfl, ?_, ?_⟩ <;> exact ⟨none, 0, rfl, Nat.le_refl _, by unfold maxLen; omega, SVS.nil⟩
def gapR (d : Rat) : Raw := if fitsQ d then raw d else nilRaw
def gapE (d : Rat) : Int := if fitsQ d then 0 else 5
theorem results_rat2 {fn : Func} {slot t : Tmp} {tmps : Array Value} {w : World} {g : Nat} {x y z : Value} (hr : fn.results = #[.cell slot 31, .tmp t]) (ha : tmps.getD slot undef = .pointer (some ⟨g, 0, none⟩))
    (h : Row w g 31 [x, y, z]) : (results fn tmps).run Tryz.prog w = .ok (.tuple #[.agg #[x, y, z], tmps.getD t undef]) w := by
  obtain ⟨h0, h1, h2⟩ := zad h
  have ha' : tmps[slot]?.getD undef = .pointer (some ⟨g, 0, none⟩) := by simpa using ha
  simp [results, hr, ha', asAddr, go_sem, h0, h1, h2]
set_option maxHeartbeats 1000000 in
theorem gap_err {w : World} {vp vx vy : Value} {p : Prog} {e : Int} (hp : IsP w (Old w) vp p) (hc : ∀ w0, Below w.heap.size w w0 → Calls Tryz.prog 56 #[vp, vx, vy] w0 fun en w' => en = .returned (.int .i64 e) ∧ Below w0.heap.size w0 w') (he : e ≠ 0) :
    Calls Tryz.prog 17 #[vp, vx, vy] w fun en w' => en = .returned (.tuple #[.agg #[.bool false, .slice none 0 0, .slice none 0 0], .int .i64 e]) ∧ Below w.heap.size w w' := by
  have Hc := Lib.hid hc
  obtain ⟨A, cA, B, cB, C, cC, rfl, _, _, _⟩ := hp
  have e0 : (e != 0) = true := bne_iff_ne.2 he
  clear hc he
  obtain ⟨w0, hw0, hb0, rP, rZ, Hz⟩ := zcl w #[.slice A p.A.length cA, .slice B p.B.length cB, .slice C p.C.length cC] #[.bool false, .slice none 0 0, .slice none 0 0] 27 31
  have HB0 := Lib.hid hb0
  have RZ := Lib.hid rZ
  obtain ⟨cP0, cP1, cP2⟩ := zad rP
  clear rP rZ hb0
  go_enter Tryz.func17, Tryz.ntmps17
  go_wp2_with fail
  clear hw0
  refine (Hc.out _ HB0.out).mono ?_
  rintro en w1 ⟨rfl, hb⟩
  have Hb1 := Lib.hid (zaa HB0.out hb)
  have RZ1 := Lib.hid (RZ.out.next hb)
  obtain ⟨d0, d1, d2⟩ := zad RZ1.out
  obtain ⟨f0, f1, f2⟩ := zax RZ1.out
  clear hb
  go_wp2_with fail
  refine bodyPost_ret (results_rat2 rfl rfl (Row.put3 RZ1.out _ _ _)) rfl ?_
  exact ⟨rfl, zbn Hb1.out (by omega) _ _ _⟩
set_option maxRecDepth 100000 in
set_option maxHeartbeats 4000000 in
theorem gap_good {w : World} {vp vx vy : Value} {q : ProgQ} {x y : List Rat} {d : Rat} (hp : IsP w (Old w) vp (rawP q)) (hx : IsV w (Old w) vx (rawV x)) (hy : IsV w (Old w) vy (rawV y)) (hB : Bru w) (hg : Good q 1024)
    (hc : ∀ w0, Below w.heap.size w w0 → Calls Tryz.prog 56 #[vp, vx, vy] w0 fun en w' => en = .returned (.int .i64 0) ∧ Below w0.heap.size w0 w')
    (hl : x.length = q.C.length) (hsx : ∀ e ∈ x, Sz e 1024) (hly : y.length = q.B.length) (hsy : ∀ e ∈ y, Sz e 1024) (hd : d = dotQ q.B y - dotQ q.C x) :
    Calls Tryz.prog 17 #[vp, vx, vy] w fun en w' => (∃ v, en = .returned (.tuple #[v, .int .i64 (gapE d)]) ∧ IsR w' (Old w') v (gapR d)) ∧ Below w.heap.size w w' := by
  have HX := Lib.hid hx
  have HY := Lib.hid hy
  have HG := Lib.hid hg
  have Hl := Lib.hid hl
  have Hsx := Lib.hid hsx
  have Hly := Lib.hid hly
  have Hsy := Lib.hid hsy
  have HB := Lib.hid hB
  have Hc := Lib.hid hc
  obtain ⟨A, cA, B, cB, C, cC, rfl, _, hBv, hC⟩ := hp
  obtain ⟨E, e1, rfl, _⟩ := zau hx
  obtain ⟨F, f1, rfl, _⟩ := zau hy
  simp only [rawP, zay, zek] at hBv hC HX HY Hc ⊢
  have HBv := Lib.hid hBv
  have HC := Lib.hid hC
  obtain ⟨p1, hp1⟩ : ∃ r, r = dotQ q.B y := ⟨_, rfl⟩
  obtain ⟨p2, hp2⟩ : ∃ r, r = dotQ q.C x := ⟨_, rfl⟩
  rw [← hp1, ← hp2] at hd
  have Hp1 := Lib.hid hp1
  have Hp2 := Lib.hid hp2
  have Hd := Lib.hid hd
  have Hs1 : Hid (Sz p1 100000) := by rw [Hid, hp1]; exact zel hg.szB hsy hg.nB
  have Hs2 : Hid (Sz p2 100000) := by rw [Hid, hp2]; exact zel hg.szC hsx hg.nC
  clear hx hy hB hg hc hl hsx hly hsy hBv hC hp1 hp2 hd
  obtain ⟨w0, hw0, hb0, rP, rZ, Hz⟩ := zcl w #[.slice A q.A.length cA, .slice B q.B.length cB, .slice C q.C.length cC] #[.bool false, .slice none 0 0, .slice none 0 0] 27 31
  have HB0 := Lib.hid hb0
  have RP := Lib.hid rP
  have RZ := Lib.hid rZ
  obtain ⟨cP0, cP1, cP2⟩ := zad rP
  clear rP rZ hb0
  go_enter Tryz.func17, Tryz.ntmps17
  go_wp2_with fail
  clear hw0
  refine (Hc.out _ HB0.out).mono ?_
  rintro en w1 ⟨rfl, hb⟩
  have Hb1 := Lib.hid (zaa HB0.out hb)
  have RP1 := Lib.hid (RP.out.next hb)
  have RZ1 := Lib.hid (RZ.out.next hb)
  have QB := Lib.hid (IsV.stb.to HBv.out (zag Hb1.out))
  have QC := Lib.hid (IsV.stb.to HC.out (zag Hb1.out))
  have QX := Lib.hid (IsV.stb.to HX.out (zag Hb1.out))
  have QY := Lib.hid (IsV.stb.to HY.out (zag Hb1.out))
  have B1 := Lib.hid (Bru.next HB.out Hb1.out)
  clear hb cP0 cP1 cP2
  obtain ⟨cP0, cP1, cP2⟩ := zad RP1.out
  obtain ⟨fq, hfq⟩ : ∃ b, b = fitsQ d := ⟨_, rfl⟩
  have Hfq := Lib.hid hfq
  clear hfq
  go_wp2_with fail
  have HS : Hid (∀ W : World, Below w1.heap.size w1 W → W.cell? ⟨w.heap.size, 0, none⟩ = some (.slice A q.A.length cA) ∧ W.cell? ⟨w.heap.size, 1, none⟩ = some (.slice B q.B.length cB) ∧ W.cell? ⟨w.heap.size, 2, none⟩ = some (.slice C q.C.length cC)) := fun W hW => ⟨zab hW cP0, zab hW cP1, zab hW cP2⟩
  have D3 : Hid (∀ W : World, Below w1.heap.size w1 W → Calls Tryz.prog 58 #[.slice B q.B.length cB, .slice F y.length f1] W (RetQ W p1)) := fun W hW => by rw [Hp1.out]; exact dot_q (M := q.B.length) (IsV.stb.next QB.out hW) (IsV.stb.next QY.out hW) (Bru.next B1.out hW) rfl Hly.out HG.out.nB HG.out.szB Hsy.out
  go_region_held3 (fun w' => w'.cell? ⟨w.heap.size, 0, none⟩ = some (.slice A q.A.length cA) ∧ w'.cell? ⟨w.heap.size, 1, none⟩ = some (.slice B q.B.length cB) ∧ w'.cell? ⟨w.heap.size, 2, none⟩ = some (.slice C q.C.length cC))
    (exact HS.out _ (by (repeat (first | exact Below.refl _ _ | refine zae ?_ _ | refine zah ?_ | refine zaf ?_ ?_ _ _ _ | refine zaa ?_ (by assumption))); (first | done | fail)))
    (first
      | (go_at_call 58; (with_reducible refine Calls.mono (D3.out _ (by (repeat (first | exact Below.refl _ _ | refine zae ?_ _ | refine zah ?_ | refine zaf ?_ ?_ _ _ _ | refine zaa ?_ (by assumption))); (first | done | fail))) ?_); rintro e w3 ⟨⟨v3, rfl, hv3⟩, hb3⟩; have V3 := Lib.hid (IsQ.stb.old hv3); obtain ⟨s3, P3, k3, O3, l3, rfl, _, _, _⟩ := zan hv3; have D4 : Hid (∀ W : World, Below w3.heap.size w3 W → Calls Tryz.prog 58 #[.slice C q.C.length cC, .slice E x.length e1] W (RetQ W p2)) := fun W hW => by rw [Hp2.out]; exact dot_q (M := q.C.length) (IsV.stb.next QC.out (by (repeat (first | exact Below.refl _ _ | refine zae ?_ _ | refine zah ?_ | refine zaf ?_ ?_ _ _ _ | refine zaa ?_ (by assumption))); (first | done | fail))) (IsV.stb.next QX.out (by (repeat (first | exact Below.refl _ _ | refine zae ?_ _ | refine zah ?_ | refine zaf ?_ ?_ _ _ _ | refine zaa ?_ (by assumption))); (first | done | fail))) (Bru.next B1.out (by (repeat (first | exact Below.refl _ _ | refine zae ?_ _ | refine zah ?_ | refine zaf ?_ ?_ _ _ _ | refine zaa ?_ (by assumption))); (first | done | fail))) rfl Hl.out HG.out.nC HG.out.szC Hsx.out)
      | (go_at_call 58; (with_reducible refine Calls.mono (D4.out _ (by (repeat (first | exact Below.refl _ _ | refine zae ?_ _ | refine zah ?_ | refine zaf ?_ ?_ _ _ _ | refine zaa ?_ (by assumption))); (first | done | fail))) ?_); rintro e w4 ⟨⟨v4, rfl, hv4⟩, hb4⟩; have V4 := Lib.hid (IsQ.stb.old hv4); obtain ⟨s4, P4, k4, O4, l4, rfl, _, _, _⟩ := zan hv4; have D5 : Hid (∀ W : World, Below w4.heap.size w4 W → Calls Tryz.prog 57 #[.agg #[.bool s3, .slice P3 (lim p1.num.natAbs).length k3, .slice O3 (lim p1.den).length l3], .agg #[.bool s4, .slice P4 (lim p2.num.natAbs).length k4, .slice O4 (lim p2.den).length l4]] W (RetQ W d)) := fun W hW => minus_q (IsQ.stb.next V3.out (by (repeat (first | exact Below.refl _ _ | refine zae ?_ _ | refine zah ?_ | refine zaf ?_ ?_ _ _ _ | refine zaa ?_ (by assumption))); (first | done | fail))) (IsQ.stb.next V4.out (by (repeat (first | exact Below.refl _ _ | refine zae ?_ _ | refine zah ?_ | refine zaf ?_ ?_ _ _ _ | refine zaa ?_ (by assumption))); (first | done | fail))) (Bru.next B1.out (by (repeat (first | exact Below.refl _ _ | refine zae ?_ _ | refine zah ?_ | refine zaf ?_ ?_ _ _ _ | refine zaa ?_ (by assumption))); (first | done | fail))) Hs1.out Hs2.out Hd.out)
      | (go_at_call 57; (with_reducible refine Calls.mono (D5.out _ (by (repeat (first | exact Below.refl _ _ | refine zae ?_ _ | refine zah ?_ | refine zaf ?_ ?_ _ _ _ | refine zaa ?_ (by assumption))); (first | done | fail))) ?_); rintro e w5 ⟨⟨v5, rfl, hv5⟩, hb5⟩; have V5 := Lib.hid (IsQ.stb.old hv5); obtain ⟨s5, P5, k5, O5, l5, rfl, _, _, _⟩ := zan hv5; (first | (have rB : Row w5 w4.heap.size 31 [.bool false, .slice none 0 0, .slice none 0 0] := (Row.next (heap_alloc_new w4 zRat) (by (repeat (first | exact Below.refl _ _ | refine zae ?_ _ | refine zah ?_ | refine zaf ?_ ?_ _ _ _ | refine zaa ?_ (by assumption))); (first | done | fail)) : Row w5 _ _ _); obtain ⟨gc0, gc1, gc2⟩ := zad rB; obtain ⟨gf0, gf1, gf2⟩ := zax rB) | (have rB : Row w5 w3.heap.size 31 [.bool false, .slice none 0 0, .slice none 0 0] := (Row.next (heap_alloc_new w3 zRat) (by (repeat (first | exact Below.refl _ _ | refine zae ?_ _ | refine zah ?_ | refine zaf ?_ ?_ _ _ _ | refine zaa ?_ (by assumption))); (first | done | fail)) : Row w5 _ _ _); obtain ⟨gc0, gc1, gc2⟩ := zad rB; obtain ⟨gf0, gf1, gf2⟩ := zax rB) | (have rB : Row w5 w1.heap.size 31 [.bool false, .slice none 0 0, .slice none 0 0] := (Row.next (heap_alloc_new (World.drew w1) zRat) (by (repeat (first | exact Below.refl _ _ | refine zae ?_ _ | refine zah ?_ | refine zaf ?_ ?_ _ _ _ | refine zaa ?_ (by assumption))); (first | done | fail)) : Row w5 _ _ _); obtain ⟨gc0, gc1, gc2⟩ := zad rB; obtain ⟨gf0, gf1, gf2⟩ := zax rB) | skip)))
  all_goals first
    | (have hF := fin3 (wB := w1) (X := w4) (g := w4.heap.size) hv5 (by (repeat (first | exact Below.refl _ _ | refine zae ?_ _ | refine zah ?_ | refine zaf ?_ ?_ _ _ _ | refine zaa ?_ (by assumption))); (first | done | fail)) (by (repeat (first | exact Below.refl _ _ | refine zae ?_ _ | refine zah ?_ | refine zaf ?_ ?_ _ _ _ | refine zaa ?_ (by assumption))); (first | done | fail)) (by (repeat (first | exact Below.refl _ _ | refine zae ?_ _ | refine zah ?_ | refine zaf ?_ ?_ _ _ _ | refine zaa ?_ (by assumption))); (first | done | fail)) (lt_alloc (o := zRat) (by (repeat (first | exact Below.refl _ _ | refine zae ?_ _ | refine zah ?_ | refine zaf ?_ ?_ _ _ _ | refine zaa ?_ (by assumption))); (first | done | fail))) (Below.size (by (repeat (first | exact Below.refl _ _ | refine zae ?_ _ | refine zah ?_ | refine zaf ?_ ?_ _ _ _ | refine zaa ?_ (by assumption))); (first | done | fail))) rfl; obtain ⟨wE, hwE, hbE, rE, qE, zE⟩ := hF)
    | (have hF := fin3 (wB := w1) (X := w3) (g := w3.heap.size) hv5 (by (repeat (first | exact Below.refl _ _ | refine zae ?_ _ | refine zah ?_ | refine zaf ?_ ?_ _ _ _ | refine zaa ?_ (by assumption))); (first | done | fail)) (by (repeat (first | exact Below.refl _ _ | refine zae ?_ _ | refine zah ?_ | refine zaf ?_ ?_ _ _ _ | refine zaa ?_ (by assumption))); (first | done | fail)) (by (repeat (first | exact Below.refl _ _ | refine zae ?_ _ | refine zah ?_ | refine zaf ?_ ?_ _ _ _ | refine zaa ?_ (by assumption))); (first | done | fail)) (lt_alloc (o := zRat) (by (repeat (first | exact Below.refl _ _ | refine zae ?_ _ | refine zah ?_ | refine zaf ?_ ?_ _ _ _ | refine zaa ?_ (by assumption))); (first | done | fail))) (Below.size (by (repeat (first | exact Below.refl _ _ | refine zae ?_ _ | refine zah ?_ | refine zaf ?_ ?_ _ _ _ | refine zaa ?_ (by assumption))); (first | done | fail))) rfl; obtain ⟨wE, hwE, hbE, rE, qE, zE⟩ := hF)
    | (have hF := fin3 (wB := w1) (X := (World.drew w1)) (g := w1.heap.size) hv5 (by (repeat (first | exact Below.refl _ _ | refine zae ?_ _ | refine zah ?_ | refine zaf ?_ ?_ _ _ _ | refine zaa ?_ (by assumption))); (first | done | fail)) (by (repeat (first | exact Below.refl _ _ | refine zae ?_ _ | refine zah ?_ | refine zaf ?_ ?_ _ _ _ | refine zaa ?_ (by assumption))); (first | done | fail)) (by (repeat (first | exact Below.refl _ _ | refine zae ?_ _ | refine zah ?_ | refine zaf ?_ ?_ _ _ _ | refine zaa ?_ (by assumption))); (first | done | fail)) (lt_alloc (o := zRat) (by (repeat (first | exact Below.refl _ _ | refine zae ?_ _ | refine zah ?_ | refine zaf ?_ ?_ _ _ _ | refine zaa ?_ (by assumption))); (first | done | fail))) (Below.size (by (repeat (first | exact Below.refl _ _ | refine zae ?_ _ | refine zah ?_ | refine zaf ?_ ?_ _ _ _ | refine zaa ?_ (by assumption))); (first | done | fail))) rfl; obtain ⟨wE, hwE, hbE, rE, qE, zE⟩ := hF)
    | (have hF := fin3L (wB := w1) hv5 (by (repeat (first | exact Below.refl _ _ | refine zae ?_ _ | refine zah ?_ | refine zaf ?_ ?_ _ _ _ | refine zaa ?_ (by assumption))); (first | done | fail)) (Below.size (by (repeat (first | exact Below.refl _ _ | refine zae ?_ _ | refine zah ?_ | refine zaf ?_ ?_ _ _ _ | refine zaa ?_ (by assumption))); (first | done | fail))); obtain ⟨wE, hwE, hbE, rE, qE, zE⟩ := hF)
  all_goals clear HS D3 D4 D5
  all_goals
    have RE := Lib.hid rE
    have QE := Lib.hid qE
    have RZE := Lib.hid (RZ1.out.next hbE)
    have HbE := Lib.hid (zaa Hb1.out hbE)
    obtain ⟨g0, g1, g2⟩ := zad rE
    clear rE qE hbE
    cases fq
    case false =>
      have Hr : Hid (gapE d = 5 ∧ gapR d = nilRaw) := by unfold Hid gapE gapR; rw [← Hfq.out]; exact ⟨rfl, rfl⟩
      go_wp2_with fail
      refine (fits_q (IsQ.stb.to QE.out (zat fun b h => h.1.2))).mono ?_
      rw [← Hfq.out]
      rintro e w6 ⟨rfl, hb6⟩
      have Hb6 := Lib.hid (zaa HbE.out hb6)
      have RZ6 := Lib.hid (RZE.out.next hb6)
      obtain ⟨d0, d1, d2⟩ := zad RZ6.out
      obtain ⟨f0, f1, f2⟩ := zax RZ6.out
      clear hb6
      go_wp2_with fail
      refine bodyPost_ret (results_rat2 rfl rfl (Row.put3 RZ6.out _ _ _)) rfl ?_
      exact ⟨⟨_, by rw [Hr.out.1]; rfl, by rw [Hr.out.2]; exact isR_nil⟩, zbn Hb6.out (by omega) _ _ _⟩
    case true =>
      have Hr : Hid (gapE d = 0 ∧ gapR d = raw d) := by unfold Hid gapE gapR; rw [← Hfq.out]; exact ⟨rfl, rfl⟩
      go_wp2_with fail
      refine (fits_q (IsQ.stb.to QE.out (zat fun b h => h.1.2))).mono ?_
      rw [← Hfq.out]
      rintro e w6 ⟨rfl, hb6⟩
      have Hb6 := Lib.hid (zaa HbE.out hb6)
      have RZ6 := Lib.hid (RZE.out.next hb6)
      have QE6 := Lib.hid (IsQ.stb.to QE.out (zbq hb6 fun b h => h.1.2))
      obtain ⟨h0, h1, h2⟩ := zad (RE.out.next hb6)
      obtain ⟨d0, d1, d2⟩ := zad RZ6.out
      obtain ⟨f0, f1, f2⟩ := zax RZ6.out
      have hsz := hb6.size
      clear hb6
      go_wp2_with fail
      refine bodyPost_ret (results_rat2 rfl rfl (Row.put3 RZ6.out _ _ _)) rfl ?_
      exact ⟨⟨_, by rw [Hr.out.1]; rfl, by rw [Hr.out.2]; exact IsQ.stb.to QE6.out (zbw fun b hb => ⟨by have := hb.1.1; have := RZ1.out.lt; omega, by show b < _; rw [zcb]; have := hb.1.2; omega⟩)⟩, zbn Hb6.out (by omega) _ _ _⟩
def IsPS (w : World) (S : Nat → Prop) (v : Value) (p : Prog) (s : Sol) : Prop :=
  ∃ A cA B cB C cC P cP Q cQ X cX D cD R cR, v = .agg #[.slice A p.A.length cA, .slice B p.B.length cB, .slice C p.C.length cC, .int .i64 s.st, .bool s.val.neg, .slice P s.val.num.length cP, .slice Q s.val.den.length cQ, .slice X s.X.length cX, .slice D s.D.length cD, .slice R s.R.length cR] ∧ IsM w S (.slice A p.A.length cA) p.A ∧ IsV w S (.slice B p.B.length cB) p.B ∧ IsV w S (.slice C p.C.length cC) p.C ∧
    IsR w S (.agg #[.bool s.val.neg, .slice P s.val.num.length cP, .slice Q s.val.den.length cQ]) s.val ∧ IsV w S (.slice X s.X.length cX) s.X ∧ IsV w S (.slice D s.D.length cD) s.D ∧ IsV w S (.slice R s.R.length cR) s.R
theorem IsPS.to {w w' : World} {S T : Nat → Prop} {v : Value} {p : Prog} {s : Sol} (h : IsPS w S v p s) (hs : Same S T w w') : IsPS w' T v p s := by
  obtain ⟨A, cA, B, cB, C, cC, P, cP, Q, cQ, X, cX, D, cD, R, cR, hv, h1, h2, h3, h4, h5, h6, h7⟩ := h
  exact ⟨A, cA, B, cB, C, cC, P, cP, Q, cQ, X, cX, D, cD, R, cR, hv, IsM.stb.to h1 hs, IsV.stb.to h2 hs, IsV.stb.to h3 hs, IsR.stb.to h4 hs, IsV.stb.to h5 hs, IsV.stb.to h6 hs, IsV.stb.to h7 hs⟩
theorem zbg {w : World} {S : Nat → Prop} {A : Option Addr} {c : Nat} {l : List Raw} (h : IsV w S (.slice A l.length c) l) : l.length ≤ 9223372036854775807 := by
  obtain ⟨_, _, _, h1⟩ := zau h
  exact h1
theorem len_eq0 {n : Nat} : ((n : Int) == 0) = decide (n = 0) := by
  rw [Bool.eq_iff_iff, beq_iff_eq, decide_eq_true_eq]
  omega
theorem int_eq0 {x : Int} : (x == 0) = decide (x = 0) := rfl
def zch (p : Prog) (s : Sol) : Bool := zav s.X p.C.length && zav s.D p.B.length && decide (s.R.length = 0) && decide (chkQ s.val = 0)
set_option maxRecDepth 100000 in
set_option maxHeartbeats 2000000 in
theorem optProper_l {w : World} {v : Value} {p : Prog} {s : Sol} (h : IsPS w (Old w) v p s) (hB : Bru w) : Calls Tryz.prog 198 #[v] w fun e w' => e = .returned (.bool (zch p s)) ∧ Below w.heap.size w w' := by
  obtain ⟨A, cA, B, cB, C, cC, P, cP, Q, cQ, X, cX, D, cD, R, cR, rfl, hA, hBv, hC, hV, hX, hD, hR⟩ := h
  have HA := Lib.hid hA
  have HBv := Lib.hid hBv
  have HC := Lib.hid hC
  have HV := Lib.hid hV
  have HX := Lib.hid hX
  have HD := Lib.hid hD
  have HR := Lib.hid hR
  have HB := Lib.hid hB
  have mB := zbg hBv
  have mC := zbg hC
  have mX := zbg hX
  have mD := zbg hD
  have mR := zbg hR
  clear hA hBv hC hV hX hD hR hB
  unfold zch
  obtain ⟨b1, hb1⟩ : ∃ b, b = zav s.X p.C.length := ⟨_, rfl⟩
  obtain ⟨b2, hb2⟩ : ∃ b, b = zav s.D p.B.length := ⟨_, rfl⟩
  obtain ⟨b3, hb3⟩ : ∃ b, b = decide (s.R.length = 0) := ⟨_, rfl⟩
  obtain ⟨b4, hb4⟩ : ∃ b, b = decide (chkQ s.val = 0) := ⟨_, rfl⟩
  obtain ⟨x, hx⟩ : ∃ x, x = chkQ s.val := ⟨_, rfl⟩
  have p3 : ((s.R.length : Int) == 0) = b3 := len_eq0.trans hb3.symm
  have p4 : (x == 0) = b4 := by rw [hb4, hx]; exact int_eq0
  rw [← hb1, ← hb2, ← hb3, ← hb4]
  have Hb1 := Lib.hid hb1
  have Hb2 := Lib.hid hb2
  have Hx := Lib.hid hx
  clear hb1 hb2 hb3 hb4 hx
  obtain ⟨w0, hw0, hb0, rA, Hz⟩ := zbm w #[.slice A p.A.length cA, .slice B p.B.length cB, .slice C p.C.length cC, .int .i64 s.st, .bool s.val.neg, .slice P s.val.num.length cP, .slice Q s.val.den.length cQ, .slice X s.X.length cX, .slice D s.D.length cD, .slice R s.R.length cR] 86
  have HB0 := Lib.hid hb0
  have RA := Lib.hid rA
  have c0 := (rA.cell 0 : w0.cell? ⟨w.heap.size, 0, none⟩ = some _)
  have c1 := (rA.cell 1 : w0.cell? ⟨w.heap.size, 1, none⟩ = some _)
  have c2 := (rA.cell 2 : w0.cell? ⟨w.heap.size, 2, none⟩ = some _)
  have c3 := (rA.cell 3 : w0.cell? ⟨w.heap.size, 3, none⟩ = some _)
  have c4 := (rA.cell 4 : w0.cell? ⟨w.heap.size, 4, none⟩ = some _)
  have c5 := (rA.cell 5 : w0.cell? ⟨w.heap.size, 5, none⟩ = some _)
  have c6 := (rA.cell 6 : w0.cell? ⟨w.heap.size, 6, none⟩ = some _)
  have c7 := (rA.cell 7 : w0.cell? ⟨w.heap.size, 7, none⟩ = some _)
  have c8 := (rA.cell 8 : w0.cell? ⟨w.heap.size, 8, none⟩ = some _)
  have c9 := (rA.cell 9 : w0.cell? ⟨w.heap.size, 9, none⟩ = some _)
  clear hb0 rA
  cases b1 with
  | false =>
    go_enter Tryz.func198, Tryz.ntmps198
    go_wp2_with fail
    clear hw0
    refine (zbx (IsV.stb.to HX.out (zag HB0.out)) (Bru.next HB.out HB0.out) mC).mono ?_
    rw [show zav s.X p.C.length = false from Hb1.out.symm]
    rintro e w1 ⟨rfl, hb⟩
    have HB1 := Lib.hid (zaa HB0.out hb)
    replace c0 := zab hb c0
    replace c1 := zab hb c1
    replace c2 := zab hb c2
    replace c3 := zab hb c3
    replace c4 := zab hb c4
    replace c5 := zab hb c5
    replace c6 := zab hb c6
    replace c7 := zab hb c7
    replace c8 := zab hb c8
    replace c9 := zab hb c9
    clear hb
    go_wp2_with fail
    go_ret
    exact ⟨rfl, HB1.out⟩
  | true =>
    cases b2 with
    | false =>
      go_enter Tryz.func198, Tryz.ntmps198
      go_wp2_with fail
      clear hw0
      refine (zbx (IsV.stb.to HX.out (zag HB0.out)) (Bru.next HB.out HB0.out) mC).mono ?_
      rw [show zav s.X p.C.length = true from Hb1.out.symm]
      rintro e w1 ⟨rfl, hb⟩
      have HB1 := Lib.hid (zaa HB0.out hb)
      replace c0 := zab hb c0
      replace c1 := zab hb c1
      replace c2 := zab hb c2
      replace c3 := zab hb c3
      replace c4 := zab hb c4
      replace c5 := zab hb c5
      replace c6 := zab hb c6
      replace c7 := zab hb c7
      replace c8 := zab hb c8
      replace c9 := zab hb c9
      clear hb
      go_wp2_with fail
      refine (zbx (IsV.stb.to HD.out (zag HB1.out)) (Bru.next HB.out HB1.out) mB).mono ?_
      rw [show zav s.D p.B.length = false from Hb2.out.symm]
      rintro e w2 ⟨rfl, hb⟩
      have HB2 := Lib.hid (zaa HB1.out hb)
      replace c0 := zab hb c0
      replace c1 := zab hb c1
      replace c2 := zab hb c2
      replace c3 := zab hb c3
      replace c4 := zab hb c4
      replace c5 := zab hb c5
      replace c6 := zab hb c6
      replace c7 := zab hb c7
      replace c8 := zab hb c8
      replace c9 := zab hb c9
      clear hb
      go_wp2_with fail
      go_ret
      exact ⟨rfl, HB2.out⟩
    | true =>
      cases b3 with
      | false =>
        go_enter Tryz.func198, Tryz.ntmps198
        go_wp2_with fail
        clear hw0
        refine (zbx (IsV.stb.to HX.out (zag HB0.out)) (Bru.next HB.out HB0.out) mC).mono ?_
        rw [show zav s.X p.C.length = true from Hb1.out.symm]
        rintro e w1 ⟨rfl, hb⟩
        have HB1 := Lib.hid (zaa HB0.out hb)
        replace c0 := zab hb c0
        replace c1 := zab hb c1
        replace c2 := zab hb c2
        replace c3 := zab hb c3
        replace c4 := zab hb c4
        replace c5 := zab hb c5
        replace c6 := zab hb c6
        replace c7 := zab hb c7
        replace c8 := zab hb c8
        replace c9 := zab hb c9
        clear hb
        go_wp2_with fail
        refine (zbx (IsV.stb.to HD.out (zag HB1.out)) (Bru.next HB.out HB1.out) mB).mono ?_
        rw [show zav s.D p.B.length = true from Hb2.out.symm]
        rintro e w2 ⟨rfl, hb⟩
        have HB2 := Lib.hid (zaa HB1.out hb)
        replace c0 := zab hb c0
        replace c1 := zab hb c1
        replace c2 := zab hb c2
        replace c3 := zab hb c3
        replace c4 := zab hb c4
        replace c5 := zab hb c5
        replace c6 := zab hb c6
        replace c7 := zab hb c7
        replace c8 := zab hb c8
        replace c9 := zab hb c9
        clear hb
        go_wp2_with fail
        go_ret
        exact ⟨rfl, HB2.out⟩
      | true =>
        cases b4 with
        | false =>
          go_enter Tryz.func198, Tryz.ntmps198
          go_wp2_with fail
          clear hw0
          refine (zbx (IsV.stb.to HX.out (zag HB0.out)) (Bru.next HB.out HB0.out) mC).mono ?_
          rw [show zav s.X p.C.length = true from Hb1.out.symm]
          rintro e w1 ⟨rfl, hb⟩
          have HB1 := Lib.hid (zaa HB0.out hb)
          replace c0 := zab hb c0
          replace c1 := zab hb c1
          replace c2 := zab hb c2
          replace c3 := zab hb c3
          replace c4 := zab hb c4
          replace c5 := zab hb c5
          replace c6 := zab hb c6
          replace c7 := zab hb c7
          replace c8 := zab hb c8
          replace c9 := zab hb c9
          clear hb
          go_wp2_with fail
          refine (zbx (IsV.stb.to HD.out (zag HB1.out)) (Bru.next HB.out HB1.out) mB).mono ?_
          rw [show zav s.D p.B.length = true from Hb2.out.symm]
          rintro e w2 ⟨rfl, hb⟩
          have HB2 := Lib.hid (zaa HB1.out hb)
          replace c0 := zab hb c0
          replace c1 := zab hb c1
          replace c2 := zab hb c2
          replace c3 := zab hb c3
          replace c4 := zab hb c4
          replace c5 := zab hb c5
          replace c6 := zab hb c6
          replace c7 := zab hb c7
          replace c8 := zab hb c8
          replace c9 := zab hb c9
          clear hb
          go_wp2_with fail
          refine (check_q (IsR.stb.to HV.out (zag HB2.out)) (Bru.next HB.out HB2.out)).mono ?_
          rw [← Hx.out]
          rintro e w3 ⟨rfl, hb⟩
          have HB3 := Lib.hid (zaa HB2.out hb)
          replace c0 := zab hb c0
          replace c1 := zab hb c1
          replace c2 := zab hb c2
          replace c3 := zab hb c3
          replace c4 := zab hb c4
          replace c5 := zab hb c5
          replace c6 := zab hb c6
          replace c7 := zab hb c7
          replace c8 := zab hb c8
          replace c9 := zab hb c9
          clear hb
          go_wp2_with fail
          go_ret
          exact ⟨rfl, HB3.out⟩
        | true =>
          go_enter Tryz.func198, Tryz.ntmps198
          go_wp2_with fail
          clear hw0
          refine (zbx (IsV.stb.to HX.out (zag HB0.out)) (Bru.next HB.out HB0.out) mC).mono ?_
          rw [show zav s.X p.C.length = true from Hb1.out.symm]
          rintro e w1 ⟨rfl, hb⟩
          have HB1 := Lib.hid (zaa HB0.out hb)
          replace c0 := zab hb c0
          replace c1 := zab hb c1
          replace c2 := zab hb c2
          replace c3 := zab hb c3
          replace c4 := zab hb c4
          replace c5 := zab hb c5
          replace c6 := zab hb c6
          replace c7 := zab hb c7
          replace c8 := zab hb c8
          replace c9 := zab hb c9
          clear hb
          go_wp2_with fail
          refine (zbx (IsV.stb.to HD.out (zag HB1.out)) (Bru.next HB.out HB1.out) mB).mono ?_
          rw [show zav s.D p.B.length = true from Hb2.out.symm]
          rintro e w2 ⟨rfl, hb⟩
          have HB2 := Lib.hid (zaa HB1.out hb)
          replace c0 := zab hb c0
          replace c1 := zab hb c1
          replace c2 := zab hb c2
          replace c3 := zab hb c3
          replace c4 := zab hb c4
          replace c5 := zab hb c5
          replace c6 := zab hb c6
          replace c7 := zab hb c7
          replace c8 := zab hb c8
          replace c9 := zab hb c9
          clear hb
          go_wp2_with fail
          refine (check_q (IsR.stb.to HV.out (zag HB2.out)) (Bru.next HB.out HB2.out)).mono ?_
          rw [← Hx.out]
          rintro e w3 ⟨rfl, hb⟩
          have HB3 := Lib.hid (zaa HB2.out hb)
          replace c0 := zab hb c0
          replace c1 := zab hb c1
          replace c2 := zab hb c2
          replace c3 := zab hb c3
          replace c4 := zab hb c4
          replace c5 := zab hb c5
          replace c6 := zab hb c6
          replace c7 := zab hb c7
          replace c8 := zab hb c8
          replace c9 := zab hb c9
          clear hb
          go_wp2_with fail
          go_ret
          exact ⟨rfl, HB3.out⟩
structure OptQ (p : Prog) (s : Sol) (q : ProgQ) (x y : List Rat) (z : Rat) : Prop where
  prog : p = rawP q
  good : Good q 1024
  X : s.X = rawV x
  D : s.D = rawV y
  val : s.val = raw z
  lx : x.length = q.C.length
  ly : y.length = q.B.length
  sx : ∀ e ∈ x, Sz e 1024
  sy : ∀ e ∈ y, Sz e 1024
  sz : Sz z 1024
theorem optProper_q {p : Prog} {s : Sol} {q : ProgQ} (hp : p = rawP q) (hg : Good q 1024) (h : zch p s = true) : ∃ x y z, OptQ p s q x y z := by
  unfold zch at h
  rw [Bool.and_eq_true, Bool.and_eq_true, Bool.and_eq_true, decide_eq_true_eq, decide_eq_true_eq] at h
  obtain ⟨⟨⟨h1, h2⟩, _⟩, h4⟩ := h
  obtain ⟨_, x, hx, lx, sx⟩ := zen h1
  obtain ⟨_, y, hy, ly, sy⟩ := zen h2
  obtain ⟨z, hz⟩ := chkQ_ok h4
  refine ⟨x, y, z, hp, hg, hx, hy, hz, ?_, ?_, sx, sy, chkQ_sz (by rw [← hz]; exact h4)⟩
  · rw [lx, hp]; exact zay _
  · rw [ly, hp]; exact zay _
theorem isP_of {w : World} {S : Nat → Prop} {A B C : Option Addr} {a b c : Nat} {p : Prog} (h1 : IsM w S (.slice A p.A.length a) p.A) (h2 : IsV w S (.slice B p.B.length b) p.B) (h3 : IsV w S (.slice C p.C.length c) p.C) : IsP w S (.agg #[.slice A p.A.length a, .slice B p.B.length b, .slice C p.C.length c]) p := ⟨A, a, B, b, C, c, rfl, h1, h2, h3⟩
def zds (q : ProgQ) (x y : List Rat) : Bool := zeg q.A q.B x && sufB q.A q.C y
set_option maxRecDepth 100000 in
set_option maxHeartbeats 2000000 in
theorem optPossible_l {w : World} {v : Value} {p : Prog} {s : Sol} {q : ProgQ} {x y : List Rat} {z : Rat} (h : IsPS w (Old w) v p s) (hB : Bru w) (hq : OptQ p s q x y z) : Calls Tryz.prog 199 #[v] w fun e w' => e = .returned (.bool (zds q x y)) ∧ Below w.heap.size w w' := by
  obtain ⟨A, cA, B, cB, C, cC, P, cP, Q, cQ, X, cX, D, cD, R, cR, rfl, hA, hBv, hC, hV, hX, hD, hR⟩ := h
  have HA := Lib.hid hA
  have HBv := Lib.hid hBv
  have HC := Lib.hid hC
  have HV := Lib.hid hV
  have HX := Lib.hid hX
  have HD := Lib.hid hD
  have HR := Lib.hid hR
  have HB := Lib.hid hB
  have mB := zbg hBv
  have mC := zbg hC
  have mX := zbg hX
  have mD := zbg hD
  have mR := zbg hR
  clear hA hBv hC hV hX hD hR hB
  have HQ := Lib.hid hq
  unfold zds
  obtain ⟨b1, hb1⟩ : ∃ b, b = zeg q.A q.B x := ⟨_, rfl⟩
  obtain ⟨b2, hb2⟩ : ∃ b, b = sufB q.A q.C y := ⟨_, rfl⟩
  rw [← hb1, ← hb2]
  have Hb1 := Lib.hid hb1
  have Hb2 := Lib.hid hb2
  have HP : Hid (∀ W : World, Below w.heap.size w W → IsP W (Old W) (.agg #[.slice A p.A.length cA, .slice B p.B.length cB, .slice C p.C.length cC]) (rawP q)) := fun W hW => by have h := isP_of (IsM.stb.to HA.out (zag hW)) (IsV.stb.to HBv.out (zag hW)) (IsV.stb.to HC.out (zag hW)); have e := HQ.out.prog; rw [← e]; exact h
  have HX2 : Hid (∀ W : World, Below w.heap.size w W → IsV W (Old W) (.slice X s.X.length cX) (rawV x)) := fun W hW => by rw [← HQ.out.X]; exact IsV.stb.to HX.out (zag hW)
  have HD2 : Hid (∀ W : World, Below w.heap.size w W → IsV W (Old W) (.slice D s.D.length cD) (rawV y)) := fun W hW => by rw [← HQ.out.D]; exact IsV.stb.to HD.out (zag hW)
  clear hb1 hb2 hq
  obtain ⟨w0, hw0, hb0, rA, Hz⟩ := zbm w #[.slice A p.A.length cA, .slice B p.B.length cB, .slice C p.C.length cC, .int .i64 s.st, .bool s.val.neg, .slice P s.val.num.length cP, .slice Q s.val.den.length cQ, .slice X s.X.length cX, .slice D s.D.length cD, .slice R s.R.length cR] 86
  have HB0 := Lib.hid hb0
  have RA := Lib.hid rA
  have c0 := (rA.cell 0 : w0.cell? ⟨w.heap.size, 0, none⟩ = some _)
  have c1 := (rA.cell 1 : w0.cell? ⟨w.heap.size, 1, none⟩ = some _)
  have c2 := (rA.cell 2 : w0.cell? ⟨w.heap.size, 2, none⟩ = some _)
  have c3 := (rA.cell 3 : w0.cell? ⟨w.heap.size, 3, none⟩ = some _)
  have c4 := (rA.cell 4 : w0.cell? ⟨w.heap.size, 4, none⟩ = some _)
  have c5 := (rA.cell 5 : w0.cell? ⟨w.heap.size, 5, none⟩ = some _)
  have c6 := (rA.cell 6 : w0.cell? ⟨w.heap.size, 6, none⟩ = some _)
  have c7 := (rA.cell 7 : w0.cell? ⟨w.heap.size, 7, none⟩ = some _)
  have c8 := (rA.cell 8 : w0.cell? ⟨w.heap.size, 8, none⟩ = some _)
  have c9 := (rA.cell 9 : w0.cell? ⟨w.heap.size, 9, none⟩ = some _)
  clear hb0 rA
  cases b1 with
  | false =>
    go_enter Tryz.func199, Tryz.ntmps199
    go_wp2_with fail
    clear hw0
    refine (zef (HP.out _ HB0.out) (HX2.out _ HB0.out) (Bru.next HB.out HB0.out) HQ.out.good HQ.out.lx HQ.out.sx).mono ?_
    rw [show zeg q.A q.B x = false from Hb1.out.symm]
    rintro e w1 ⟨rfl, hb⟩
    have HB1 := Lib.hid (zaa HB0.out hb)
    replace c0 := zab hb c0
    replace c1 := zab hb c1
    replace c2 := zab hb c2
    replace c3 := zab hb c3
    replace c4 := zab hb c4
    replace c5 := zab hb c5
    replace c6 := zab hb c6
    replace c7 := zab hb c7
    replace c8 := zab hb c8
    replace c9 := zab hb c9
    clear hb
    go_wp2_with fail
    go_ret
    exact ⟨rfl, HB1.out⟩
  | true =>
    cases b2 with
    | false =>
      go_enter Tryz.func199, Tryz.ntmps199
      go_wp2_with fail
      clear hw0
      refine (zef (HP.out _ HB0.out) (HX2.out _ HB0.out) (Bru.next HB.out HB0.out) HQ.out.good HQ.out.lx HQ.out.sx).mono ?_
      rw [show zeg q.A q.B x = true from Hb1.out.symm]
      rintro e w1 ⟨rfl, hb⟩
      have HB1 := Lib.hid (zaa HB0.out hb)
      replace c0 := zab hb c0
      replace c1 := zab hb c1
      replace c2 := zab hb c2
      replace c3 := zab hb c3
      replace c4 := zab hb c4
      replace c5 := zab hb c5
      replace c6 := zab hb c6
      replace c7 := zab hb c7
      replace c8 := zab hb c8
      replace c9 := zab hb c9
      clear hb
      go_wp2_with fail
      refine (suffices_l (HP.out _ HB1.out) (HD2.out _ HB1.out) (Bru.next HB.out HB1.out) HQ.out.good HQ.out.ly HQ.out.sy).mono ?_
      rw [show sufB q.A q.C y = false from Hb2.out.symm]
      rintro e w2 ⟨rfl, hb⟩
      have HB2 := Lib.hid (zaa HB1.out hb)
      replace c0 := zab hb c0
      replace c1 := zab hb c1
      replace c2 := zab hb c2
      replace c3 := zab hb c3
      replace c4 := zab hb c4
      replace c5 := zab hb c5
      replace c6 := zab hb c6
      replace c7 := zab hb c7
      replace c8 := zab hb c8
      replace c9 := zab hb c9
      clear hb
      go_wp2_with fail
      go_ret
      exact ⟨rfl, HB2.out⟩
    | true =>
      go_enter Tryz.func199, Tryz.ntmps199
      go_wp2_with fail
      clear hw0
      refine (zef (HP.out _ HB0.out) (HX2.out _ HB0.out) (Bru.next HB.out HB0.out) HQ.out.good HQ.out.lx HQ.out.sx).mono ?_
      rw [show zeg q.A q.B x = true from Hb1.out.symm]
      rintro e w1 ⟨rfl, hb⟩
      have HB1 := Lib.hid (zaa HB0.out hb)
      replace c0 := zab hb c0
      replace c1 := zab hb c1
      replace c2 := zab hb c2
      replace c3 := zab hb c3
      replace c4 := zab hb c4
      replace c5 := zab hb c5
      replace c6 := zab hb c6
      replace c7 := zab hb c7
      replace c8 := zab hb c8
      replace c9 := zab hb c9
      clear hb
      go_wp2_with fail
      refine (suffices_l (HP.out _ HB1.out) (HD2.out _ HB1.out) (Bru.next HB.out HB1.out) HQ.out.good HQ.out.ly HQ.out.sy).mono ?_
      rw [show sufB q.A q.C y = true from Hb2.out.symm]
      rintro e w2 ⟨rfl, hb⟩
      have HB2 := Lib.hid (zaa HB1.out hb)
      replace c0 := zab hb c0
      replace c1 := zab hb c1
      replace c2 := zab hb c2
      replace c3 := zab hb c3
      replace c4 := zab hb c4
      replace c5 := zab hb c5
      replace c6 := zab hb c6
      replace c7 := zab hb c7
      replace c8 := zab hb c8
      replace c9 := zab hb c9
      clear hb
      go_wp2_with fail
      go_ret
      exact ⟨rfl, HB2.out⟩
end Go.Proofs.YtblpaocignlpkaaGreatDoor
