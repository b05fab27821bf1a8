/-
  Package dual's last check of a solution that has a greatest value, and its walk.
-/
import Derived.Test.YtblpaocignlpkaaGreatDoorCore14
import Derived.Test.YtblpaocignlpkaaGreatDoorCore03
namespace Go.Proofs.YtblpaocignlpkaaGreatDoor
open Go.RowKit
set_option linter.unusedVariables false
theorem cmp_eq0 {a b : Rat} : (cmpQ a b == 0) = decide (a = b) := by
  rw [Bool.eq_iff_iff, beq_iff_eq, decide_eq_true_eq]
  exact cmpQ_zero
def optEqual (q : ProgQ) (x y : List Rat) (z : Rat) : Bool := decide (dotQ q.C x = z) && decide (dotQ q.B y = z)
set_option maxRecDepth 100000 in
set_option maxHeartbeats 4000000 in
theorem optEqual_l {w : World} {v : Value} {p : Prog} {s : Sol} {q : ProgQ} {x y : List Rat} {z : Rat} (h : IsPS w (Old w) v p s) (hB : Bru w) (hq : OptQ p s q x y z) : Calls Tryz.prog 196 #[v] w fun e w' => e = .returned (.bool (optEqual q x y z)) ∧ Below w.heap.size w w' := by
  obtain ⟨A, cA, B, cB, C, cC, P, cP, Q, cQ, X, cX, D, cD, R, cR, rfl, hA, hBv, hC, hV, hX, hD, hR⟩ := h
  have HA := Lib.hid hA
  have HBv := Lib.hid hBv
  have HC := Lib.hid hC
  have HV := Lib.hid hV
  have HX := Lib.hid hX
  have HD := Lib.hid hD
  have HR := Lib.hid hR
  have HB := Lib.hid hB
  have mB := zbg hBv
  have mC := zbg hC
  have mX := zbg hX
  have mD := zbg hD
  have mR := zbg hR
  clear hA hBv hC hV hX hD hR hB
  have HQ := Lib.hid hq
  unfold optEqual
  obtain ⟨d1, hd1⟩ : ∃ r, r = dotQ q.C x := ⟨_, rfl⟩
  obtain ⟨d2, hd2⟩ : ∃ r, r = dotQ q.B y := ⟨_, rfl⟩
  rw [← hd1, ← hd2]
  obtain ⟨b1, hb1⟩ : ∃ b, b = decide (d1 = z) := ⟨_, rfl⟩
  obtain ⟨b2, hb2⟩ : ∃ b, b = decide (d2 = z) := ⟨_, rfl⟩
  obtain ⟨o1, ho1⟩ : ∃ o, o = cmpQ d1 z := ⟨_, rfl⟩
  obtain ⟨o2, ho2⟩ : ∃ o, o = cmpQ d2 z := ⟨_, rfl⟩
  have p1 : (o1 == 0) = b1 := by rw [ho1, hb1]; exact cmp_eq0
  have p2 : (o2 == 0) = b2 := by rw [ho2, hb2]; exact cmp_eq0
  rw [← hb1, ← hb2]
  have Hd1 := Lib.hid hd1
  have Hd2 := Lib.hid hd2
  have Ho1 := Lib.hid ho1
  have Ho2 := Lib.hid ho2
  have Hs1 : Hid (Sz d1 100000) := by rw [Hid, hd1]; exact zel hq.good.szC hq.sx hq.good.nC
  have Hs2 : Hid (Sz d2 100000) := by rw [Hid, hd2]; exact zel hq.good.szB hq.sy hq.good.nB
  have Hsz : Hid (Sz z 100000) := hq.sz.le (by omega)
  have HB2 : Hid (∀ W : World, Below w.heap.size w W → IsV W (Old W) (.slice B p.B.length cB) (rawV q.B)) := fun W hW => by have e : p.B = rawV q.B := (by rw [HQ.out.prog]; rfl); rw [← e]; exact IsV.stb.to HBv.out (zag hW)
  have HC2 : Hid (∀ W : World, Below w.heap.size w W → IsV W (Old W) (.slice C p.C.length cC) (rawV q.C)) := fun W hW => by have e : p.C = rawV q.C := (by rw [HQ.out.prog]; rfl); rw [← e]; exact IsV.stb.to HC.out (zag hW)
  have HX2 : Hid (∀ W : World, Below w.heap.size w W → IsV W (Old W) (.slice X s.X.length cX) (rawV x)) := fun W hW => by rw [← HQ.out.X]; exact IsV.stb.to HX.out (zag hW)
  have HD2 : Hid (∀ W : World, Below w.heap.size w W → IsV W (Old W) (.slice D s.D.length cD) (rawV y)) := fun W hW => by rw [← HQ.out.D]; exact IsV.stb.to HD.out (zag hW)
  have HZ2 : Hid (∀ W : World, Below w.heap.size w W → IsQ W (Old W) (.agg #[.bool s.val.neg, .slice P s.val.num.length cP, .slice Q s.val.den.length cQ]) z) := fun W hW => by have h := IsR.stb.to HV.out (zag hW); have e := HQ.out.val; unfold IsQ; rw [← e]; exact h
  clear hb1 hb2 hq hd1 hd2 ho1 ho2
  obtain ⟨w0, hw0, hb0, rA, Hz⟩ := zbm w #[.slice A p.A.length cA, .slice B p.B.length cB, .slice C p.C.length cC, .int .i64 s.st, .bool s.val.neg, .slice P s.val.num.length cP, .slice Q s.val.den.length cQ, .slice X s.X.length cX, .slice D s.D.length cD, .slice R s.R.length cR] 86
  have HB0 := Lib.hid hb0
  have RA := Lib.hid rA
  have c0 := (rA.cell 0 : w0.cell? ⟨w.heap.size, 0, none⟩ = some _)
  have c1 := (rA.cell 1 : w0.cell? ⟨w.heap.size, 1, none⟩ = some _)
  have c2 := (rA.cell 2 : w0.cell? ⟨w.heap.size, 2, none⟩ = some _)
  have c3 := (rA.cell 3 : w0.cell? ⟨w.heap.size, 3, none⟩ = some _)
  have c4 := (rA.cell 4 : w0.cell? ⟨w.heap.size, 4, none⟩ = some _)
  have c5 := (rA.cell 5 : w0.cell? ⟨w.heap.size, 5, none⟩ = some _)
  have c6 := (rA.cell 6 : w0.cell? ⟨w.heap.size, 6, none⟩ = some _)
  have c7 := (rA.cell 7 : w0.cell? ⟨w.heap.size, 7, none⟩ = some _)
  have c8 := (rA.cell 8 : w0.cell? ⟨w.heap.size, 8, none⟩ = some _)
  have c9 := (rA.cell 9 : w0.cell? ⟨w.heap.size, 9, none⟩ = some _)
  clear rA
  cases b1 with
  | false =>
    go_enter Tryz.func196, Tryz.ntmps196
    go_wp2_with fail
    clear hw0
    have HS : Hid (∀ W : World, Below w0.heap.size w0 W → W.cell? ⟨w.heap.size, 1, none⟩ = some (.slice B p.B.length cB) ∧ W.cell? ⟨w.heap.size, 2, none⟩ = some (.slice C p.C.length cC) ∧ W.cell? ⟨w.heap.size, 4, none⟩ = some (.bool s.val.neg) ∧ W.cell? ⟨w.heap.size, 5, none⟩ = some (.slice P s.val.num.length cP) ∧ W.cell? ⟨w.heap.size, 6, none⟩ = some (.slice Q s.val.den.length cQ) ∧ W.cell? ⟨w.heap.size, 7, none⟩ = some (.slice X s.X.length cX) ∧ W.cell? ⟨w.heap.size, 8, none⟩ = some (.slice D s.D.length cD)) := fun W hW => ⟨zab hW c1, zab hW c2, zab hW c4, zab hW c5, zab hW c6, zab hW c7, zab hW c8⟩
    have D3 : Hid (∀ W : World, Below w0.heap.size w0 W → Calls Tryz.prog 58 #[.slice C p.C.length cC, .slice X s.X.length cX] W (RetQ W d1)) := fun W hW => by rw [Hd1.out]; exact dot_q (M := q.C.length) (HC2.out _ (zaa hb0 (show Below w0.heap.size w0 W from (by (repeat (first | exact Below.refl _ _ | assumption | refine zae ?_ _ | refine zah ?_ | refine zaf ?_ ?_ _ _ _ | refine zaj ?_ (by omega) | refine zaa ?_ (by assumption))); (first | done | fail))))) (HX2.out _ (zaa hb0 (show Below w0.heap.size w0 W from (by (repeat (first | exact Below.refl _ _ | assumption | refine zae ?_ _ | refine zah ?_ | refine zaf ?_ ?_ _ _ _ | refine zaj ?_ (by omega) | refine zaa ?_ (by assumption))); (first | done | fail))))) (Bru.next HB.out (zaa hb0 (show Below w0.heap.size w0 W from (by (repeat (first | exact Below.refl _ _ | assumption | refine zae ?_ _ | refine zah ?_ | refine zaf ?_ ?_ _ _ _ | refine zaj ?_ (by omega) | refine zaa ?_ (by assumption))); (first | done | fail))))) rfl HQ.out.lx HQ.out.good.nC HQ.out.good.szC HQ.out.sx
    refine wp_region_noPanic ?_
    refine wp_region_held_drew (S := fun w' => w'.cell? ⟨w.heap.size, 1, none⟩ = some (.slice B p.B.length cB) ∧ w'.cell? ⟨w.heap.size, 2, none⟩ = some (.slice C p.C.length cC) ∧ w'.cell? ⟨w.heap.size, 4, none⟩ = some (.bool s.val.neg) ∧ w'.cell? ⟨w.heap.size, 5, none⟩ = some (.slice P s.val.num.length cP) ∧ w'.cell? ⟨w.heap.size, 6, none⟩ = some (.slice Q s.val.den.length cQ) ∧ w'.cell? ⟨w.heap.size, 7, none⟩ = some (.slice X s.X.length cX) ∧ w'.cell? ⟨w.heap.size, 8, none⟩ = some (.slice D s.D.length cD)) (by kernel_rfl) (HS.out _ (by (repeat (first | exact Below.refl _ _ | assumption | refine zae ?_ _ | refine zah ?_ | refine zaf ?_ ?_ _ _ _ | refine zaj ?_ (by omega) | refine zaa ?_ (by assumption))); (first | done | fail))) (fun hHeld => ?_)
    refine takeT (i := 0) (v := ?_) (some 3) rfl rfl (by kernel_rfl) (by kernel_rfl) (by kernel_rfl) (by rfl) (fun _ _ _ h => h) ?_ (by assumption) ?_
    rotate_left 1
    focus (intro w hSw; (try dsimp only at hSw); go_simp; (try (with_reducible rfl)))
    simp only [Act.put, List.setIfInBounds_toArray, List.set_cons_zero, List.set_cons_succ]
    refine takeT (i := 1) (v := ?_) (some 4) rfl rfl (by kernel_rfl) (by kernel_rfl) (by kernel_rfl) (by rfl) (fun _ _ _ h => h) ?_ (by assumption) ?_
    rotate_left 1
    focus (intro w hSw; (try dsimp only at hSw); go_simp; (try (with_reducible rfl)))
    simp only [Act.put, List.setIfInBounds_toArray, List.set_cons_zero, List.set_cons_succ]
    refine takeT (i := 2) (v := ?_) (some 5) rfl rfl (by kernel_rfl) (by kernel_rfl) (by kernel_rfl) (by rfl) (fun _ _ _ h => h) ?_ (by assumption) ?_
    rotate_left 1
    focus (intro w hSw; (try dsimp only at hSw); go_simp; (try (with_reducible rfl)))
    simp only [Act.put, List.setIfInBounds_toArray, List.set_cons_zero, List.set_cons_succ]
    refine takeT (i := 3) (v := ?_) (some 6) rfl rfl (by kernel_rfl) (by kernel_rfl) (by kernel_rfl) (by rfl) (fun _ _ _ h => h) ?_ (by assumption) ?_
    rotate_left 1
    focus (intro w hSw; (try dsimp only at hSw); go_simp; (try (with_reducible rfl)))
    simp only [Act.put, List.setIfInBounds_toArray, List.set_cons_zero, List.set_cons_succ]
    refine takeT (i := 4) (v := ?_) (some 7) rfl rfl (by kernel_rfl) (by kernel_rfl) (by kernel_rfl) (by rfl) (fun _ _ _ h => h) ?_ (by assumption) ?_
    rotate_left 1
    focus (intro w hSw; (try dsimp only at hSw); go_simp; (try (with_reducible rfl)))
    simp only [Act.put, List.setIfInBounds_toArray, List.set_cons_zero, List.set_cons_succ]
    refine takeT (i := 5) (v := ?_) (some 8) rfl rfl (by kernel_rfl) (by kernel_rfl) (by kernel_rfl) (by rfl) (fun _ _ _ h => h) ?_ (by assumption) ?_
    rotate_left 1
    focus (intro w hSw; (try dsimp only at hSw); go_simp; (try (with_reducible rfl)))
    simp only [Act.put, List.setIfInBounds_toArray, List.set_cons_zero, List.set_cons_succ]
    refine takeT (i := 6) (v := ?_) (some 9) rfl rfl (by kernel_rfl) (by kernel_rfl) (by kernel_rfl) (by rfl) (fun _ _ _ h => h) ?_ (by assumption) ?_
    rotate_left 1
    focus (intro w hSw; (try dsimp only at hSw); go_simp; (try (with_reducible rfl)))
    simp only [Act.put, List.setIfInBounds_toArray, List.set_cons_zero, List.set_cons_succ]
    refine takeT (i := 8) (v := ?_) (some 11) rfl rfl (by kernel_rfl) (by kernel_rfl) (by kernel_rfl) (by rfl) (fun _ _ _ h => h) ?_ (by assumption) ?_
    rotate_left 1
    focus (intro w hSw; (try dsimp only at hSw); go_simp; (try (with_reducible rfl)))
    simp only [Act.put, List.setIfInBounds_toArray, List.set_cons_zero, List.set_cons_succ]
    refine takeT (i := 9) (v := ?_) (some 12) rfl rfl (by kernel_rfl) (by kernel_rfl) (by kernel_rfl) (by rfl) (fun _ _ _ h => h) ?_ (by assumption) ?_
    rotate_left 1
    focus (intro w hSw; (try dsimp only at hSw); go_simp; (try (with_reducible rfl)))
    simp only [Act.put, List.setIfInBounds_toArray, List.set_cons_zero, List.set_cons_succ]
    refine takeT (i := 10) (v := ?_) (some 13) rfl rfl (by kernel_rfl) (by kernel_rfl) (by kernel_rfl) (by rfl) (fun _ _ _ h => h) ?_ (by assumption) ?_
    rotate_left 1
    focus (intro w hSw; (try dsimp only at hSw); go_simp; (try (with_reducible rfl)))
    simp only [Act.put, List.setIfInBounds_toArray, List.set_cons_zero, List.set_cons_succ]
    refine wpAnyH_ready (rs := [7]) (by kernel_rfl) (by simp) ?_
    refine AllReadyH.cons rfl (fun K hK => ?_) AllReadyH.nil
    go_simp
    go_at_call 58
    (with_reducible refine Calls.mono (D3.out _ (by (repeat (first | exact Below.refl _ _ | assumption | refine zae ?_ _ | refine zah ?_ | refine zaf ?_ ?_ _ _ _ | refine zaj ?_ (by omega) | refine zaa ?_ (by assumption))); (first | done | fail))) ?_)
    rintro e w3 ⟨⟨v3, rfl, hv3⟩, hb3⟩
    have V3 := Lib.hid (IsQ.stb.old hv3)
    obtain ⟨s3, P3, k3, O3, l3, rfl, _, _, _⟩ := zan hv3
    have D4 : Hid (∀ W : World, Below w3.heap.size w3 W → Calls Tryz.prog 65 #[.agg #[.bool s3, .slice P3 (lim d1.num.natAbs).length k3, .slice O3 (lim d1.den).length l3], .agg #[.bool s.val.neg, .slice P s.val.num.length cP, .slice Q s.val.den.length cQ]] W (fun e w' => e = .returned (.int .i64 o1) ∧ Below W.heap.size W w')) := fun W hW => by rw [Ho1.out]; exact order_q (IsQ.stb.next V3.out (by (repeat (first | exact Below.refl _ _ | assumption | refine zae ?_ _ | refine zah ?_ | refine zaf ?_ ?_ _ _ _ | refine zaj ?_ (by omega) | refine zaa ?_ (by assumption))); (first | done | fail))) (HZ2.out _ (zaa hb0 (show Below w0.heap.size w0 W from (by (repeat (first | exact Below.refl _ _ | assumption | refine zae ?_ _ | refine zah ?_ | refine zaf ?_ ?_ _ _ _ | refine zaj ?_ (by omega) | refine zaa ?_ (by assumption))); (first | done | fail))))) Hs1.out Hsz.out
    go_wp2_with fail
    refine hK.out _ _ (HS.out _ (by (repeat (first | exact Below.refl _ _ | assumption | refine zae ?_ _ | refine zah ?_ | refine zaf ?_ ?_ _ _ _ | refine zaj ?_ (by omega) | refine zaa ?_ (by assumption))); (first | done | fail))) (fun hHeld => ?_)
    clear hK K
    refine wpAnyH_ready (rs := [11]) (by kernel_rfl) (by simp) ?_
    refine AllReadyH.cons rfl (fun K hK => ?_) AllReadyH.nil
    go_simp
    go_at_call 65
    (with_reducible refine Calls.mono (D4.out _ (by (repeat (first | exact Below.refl _ _ | assumption | refine zae ?_ _ | refine zah ?_ | refine zaf ?_ ?_ _ _ _ | refine zaj ?_ (by omega) | refine zaa ?_ (by assumption))); (first | done | fail))) ?_)
    rintro e w4 ⟨rfl, hb4⟩
    go_wp2_with fail
    refine hK.out _ _ (HS.out _ (by (repeat (first | exact Below.refl _ _ | assumption | refine zae ?_ _ | refine zah ?_ | refine zaf ?_ ?_ _ _ _ | refine zaj ?_ (by omega) | refine zaa ?_ (by assumption))); (first | done | fail))) (fun hHeld => ?_)
    clear hK K
    refine takeT (i := 12) (v := ?_) (some 15) rfl rfl (by kernel_rfl) (by kernel_rfl) (by kernel_rfl) (by rfl) (fun _ _ _ h => h) ?_ (by assumption) ?_
    rotate_left 1
    focus (intro w hSw; (try dsimp only at hSw); go_simp; (try (with_reducible rfl)))
    simp only [Act.put, List.setIfInBounds_toArray, List.set_cons_zero, List.set_cons_succ]
    refine takeT (i := 13) (v := ?_) (some 16) rfl rfl (by kernel_rfl) (by kernel_rfl) (by kernel_rfl) (by rfl) (fun _ _ _ h => h) ?_ (by assumption) ?_
    rotate_left 1
    focus (intro w hSw; (try dsimp only at hSw); go_simp; (try (with_reducible rfl)))
    simp only [Act.put, List.setIfInBounds_toArray, List.set_cons_zero, List.set_cons_succ]
    refine takeU (i := 14) (some 17) rfl rfl (by kernel_rfl) (by kernel_rfl) (by kernel_rfl) (by rfl) (fun _ _ _ h => h) (by assumption) ?_
    simp only [Act.put, List.setIfInBounds_toArray, List.set_cons_zero, List.set_cons_succ]
    refine takeU (i := 15) (some 18) rfl rfl (by kernel_rfl) (by kernel_rfl) (by kernel_rfl) (by rfl) (fun _ _ _ h => h) (by assumption) ?_
    simp only [Act.put, List.setIfInBounds_toArray, List.set_cons_zero, List.set_cons_succ]
    refine takeU (i := 16) (some 19) rfl rfl (by kernel_rfl) (by kernel_rfl) (by kernel_rfl) (by rfl) (fun _ _ _ h => h) (by assumption) ?_
    simp only [Act.put, List.setIfInBounds_toArray, List.set_cons_zero, List.set_cons_succ]
    refine takeU (i := 17) (some 20) rfl rfl (by kernel_rfl) (by kernel_rfl) (by kernel_rfl) (by rfl) (fun _ _ _ h => h) (by assumption) ?_
    simp only [Act.put, List.setIfInBounds_toArray, List.set_cons_zero, List.set_cons_succ]
    refine takeU (i := 18) (some 21) rfl rfl (by kernel_rfl) (by kernel_rfl) (by kernel_rfl) (by rfl) (fun _ _ _ h => h) (by assumption) ?_
    simp only [Act.put, List.setIfInBounds_toArray, List.set_cons_zero, List.set_cons_succ]
    refine takeU (i := 19) (some 22) rfl rfl (by kernel_rfl) (by kernel_rfl) (by kernel_rfl) (by rfl) (fun _ _ _ h => h) (by assumption) ?_
    simp only [Act.put, List.setIfInBounds_toArray, List.set_cons_zero, List.set_cons_succ]
    refine takeU (i := 20) (some 23) rfl rfl (by kernel_rfl) (by kernel_rfl) (by kernel_rfl) (by rfl) (fun _ _ _ h => h) (by assumption) ?_
    simp only [Act.put, List.setIfInBounds_toArray, List.set_cons_zero, List.set_cons_succ]
    refine takeU (i := 21) (some 24) rfl rfl (by kernel_rfl) (by kernel_rfl) (by kernel_rfl) (by rfl) (fun _ _ _ h => h) (by assumption) ?_
    simp only [Act.put, List.setIfInBounds_toArray, List.set_cons_zero, List.set_cons_succ]
    refine takeU (i := 22) (some 25) rfl rfl (by kernel_rfl) (by kernel_rfl) (by kernel_rfl) (by rfl) (fun _ _ _ h => h) (by assumption) ?_
    simp only [Act.put, List.setIfInBounds_toArray, List.set_cons_zero, List.set_cons_succ]
    refine takeU (i := 23) (some 26) rfl rfl (by kernel_rfl) (by kernel_rfl) (by kernel_rfl) (by rfl) (fun _ _ _ h => h) (by assumption) ?_
    simp only [Act.put, List.setIfInBounds_toArray, List.set_cons_zero, List.set_cons_succ]
    refine takeU (i := 24) (some 27) rfl rfl (by kernel_rfl) (by kernel_rfl) (by kernel_rfl) (by rfl) (fun _ _ _ h => h) (by assumption) ?_
    simp only [Act.put, List.setIfInBounds_toArray, List.set_cons_zero, List.set_cons_succ]
    refine takeU (i := 25) (some 28) rfl rfl (by kernel_rfl) (by kernel_rfl) (by kernel_rfl) (by rfl) (fun _ _ _ h => h) (by assumption) ?_
    simp only [Act.put, List.setIfInBounds_toArray, List.set_cons_zero, List.set_cons_succ]
    refine takeU (i := 26) (some 29) rfl rfl (by kernel_rfl) (by kernel_rfl) (by kernel_rfl) (by rfl) (fun _ _ _ h => h) (by assumption) ?_
    simp only [Act.put, List.setIfInBounds_toArray, List.set_cons_zero, List.set_cons_succ]
    refine takeT (i := 27) (v := ?_) (some 30) rfl rfl (by kernel_rfl) (by kernel_rfl) (by kernel_rfl) (by rfl) (fun _ _ _ h => h) ?_ (by assumption) ?_
    rotate_left 1
    focus (intro w hSw; (try dsimp only at hSw); go_simp; (try (with_reducible rfl)))
    simp only [Act.put, List.setIfInBounds_toArray, List.set_cons_zero, List.set_cons_succ]
    refine takeT (i := 28) (v := ?_) (some 2) rfl rfl (by kernel_rfl) (by kernel_rfl) (by kernel_rfl) (by rfl) (fun _ _ _ h => h) ?_ (by assumption) ?_
    rotate_left 1
    focus (intro w hSw; (try dsimp only at hSw); go_simp; (try (with_reducible rfl)))
    simp only [Act.put, List.setIfInBounds_toArray, List.set_cons_zero, List.set_cons_succ]
    refine wpAnyH_done (by kernel_rfl) ?_ _
    refine NoPanic.normal ?_
    all_goals
      go_wp2_with fail
      go_ret
      exact ⟨rfl, zaa hb0 (show Below w0.heap.size w0 _ from (by (repeat (first | exact Below.refl _ _ | assumption | refine zae ?_ _ | refine zah ?_ | refine zaf ?_ ?_ _ _ _ | refine zaj ?_ (by omega) | refine zaa ?_ (by assumption))); (first | done | fail)))⟩
  | true =>
    cases b2 with
    | false =>
      go_enter Tryz.func196, Tryz.ntmps196
      go_wp2_with fail
      clear hw0
      have HS : Hid (∀ W : World, Below w0.heap.size w0 W → W.cell? ⟨w.heap.size, 1, none⟩ = some (.slice B p.B.length cB) ∧ W.cell? ⟨w.heap.size, 2, none⟩ = some (.slice C p.C.length cC) ∧ W.cell? ⟨w.heap.size, 4, none⟩ = some (.bool s.val.neg) ∧ W.cell? ⟨w.heap.size, 5, none⟩ = some (.slice P s.val.num.length cP) ∧ W.cell? ⟨w.heap.size, 6, none⟩ = some (.slice Q s.val.den.length cQ) ∧ W.cell? ⟨w.heap.size, 7, none⟩ = some (.slice X s.X.length cX) ∧ W.cell? ⟨w.heap.size, 8, none⟩ = some (.slice D s.D.length cD)) := fun W hW => ⟨zab hW c1, zab hW c2, zab hW c4, zab hW c5, zab hW c6, zab hW c7, zab hW c8⟩
      have D3 : Hid (∀ W : World, Below w0.heap.size w0 W → Calls Tryz.prog 58 #[.slice C p.C.length cC, .slice X s.X.length cX] W (RetQ W d1)) := fun W hW => by rw [Hd1.out]; exact dot_q (M := q.C.length) (HC2.out _ (zaa hb0 (show Below w0.heap.size w0 W from (by (repeat (first | exact Below.refl _ _ | assumption | refine zae ?_ _ | refine zah ?_ | refine zaf ?_ ?_ _ _ _ | refine zaj ?_ (by omega) | refine zaa ?_ (by assumption))); (first | done | fail))))) (HX2.out _ (zaa hb0 (show Below w0.heap.size w0 W from (by (repeat (first | exact Below.refl _ _ | assumption | refine zae ?_ _ | refine zah ?_ | refine zaf ?_ ?_ _ _ _ | refine zaj ?_ (by omega) | refine zaa ?_ (by assumption))); (first | done | fail))))) (Bru.next HB.out (zaa hb0 (show Below w0.heap.size w0 W from (by (repeat (first | exact Below.refl _ _ | assumption | refine zae ?_ _ | refine zah ?_ | refine zaf ?_ ?_ _ _ _ | refine zaj ?_ (by omega) | refine zaa ?_ (by assumption))); (first | done | fail))))) rfl HQ.out.lx HQ.out.good.nC HQ.out.good.szC HQ.out.sx
      go_region_held3 (fun w' => w'.cell? ⟨w.heap.size, 1, none⟩ = some (.slice B p.B.length cB) ∧ w'.cell? ⟨w.heap.size, 2, none⟩ = some (.slice C p.C.length cC) ∧ w'.cell? ⟨w.heap.size, 4, none⟩ = some (.bool s.val.neg) ∧ w'.cell? ⟨w.heap.size, 5, none⟩ = some (.slice P s.val.num.length cP) ∧ w'.cell? ⟨w.heap.size, 6, none⟩ = some (.slice Q s.val.den.length cQ) ∧ w'.cell? ⟨w.heap.size, 7, none⟩ = some (.slice X s.X.length cX) ∧ w'.cell? ⟨w.heap.size, 8, none⟩ = some (.slice D s.D.length cD))
        (exact HS.out _ (by (repeat (first | exact Below.refl _ _ | assumption | refine zae ?_ _ | refine zah ?_ | refine zaf ?_ ?_ _ _ _ | refine zaj ?_ (by omega) | refine zaa ?_ (by assumption))); (first | done | fail)))
        (first
          | (go_at_call 58; (with_reducible refine Calls.mono (D3.out _ (by (repeat (first | exact Below.refl _ _ | assumption | refine zae ?_ _ | refine zah ?_ | refine zaf ?_ ?_ _ _ _ | refine zaj ?_ (by omega) | refine zaa ?_ (by assumption))); (first | done | fail))) ?_); rintro e w3 ⟨⟨v3, rfl, hv3⟩, hb3⟩; have V3 := Lib.hid (IsQ.stb.old hv3); obtain ⟨s3, P3, k3, O3, l3, rfl, _, _, _⟩ := zan hv3; have D4 : Hid (∀ W : World, Below w3.heap.size w3 W → Calls Tryz.prog 65 #[.agg #[.bool s3, .slice P3 (lim d1.num.natAbs).length k3, .slice O3 (lim d1.den).length l3], .agg #[.bool s.val.neg, .slice P s.val.num.length cP, .slice Q s.val.den.length cQ]] W (fun e w' => e = .returned (.int .i64 o1) ∧ Below W.heap.size W w')) := fun W hW => by rw [Ho1.out]; exact order_q (IsQ.stb.next V3.out (by (repeat (first | exact Below.refl _ _ | assumption | refine zae ?_ _ | refine zah ?_ | refine zaf ?_ ?_ _ _ _ | refine zaj ?_ (by omega) | refine zaa ?_ (by assumption))); (first | done | fail))) (HZ2.out _ (zaa hb0 (show Below w0.heap.size w0 W from (by (repeat (first | exact Below.refl _ _ | assumption | refine zae ?_ _ | refine zah ?_ | refine zaf ?_ ?_ _ _ _ | refine zaj ?_ (by omega) | refine zaa ?_ (by assumption))); (first | done | fail))))) Hs1.out Hsz.out)
          | (go_at_call 65; (with_reducible refine Calls.mono (D4.out _ (by (repeat (first | exact Below.refl _ _ | assumption | refine zae ?_ _ | refine zah ?_ | refine zaf ?_ ?_ _ _ _ | refine zaj ?_ (by omega) | refine zaa ?_ (by assumption))); (first | done | fail))) ?_); rintro e w4 ⟨rfl, hb4⟩; have D5 : Hid (∀ W : World, Below w4.heap.size w4 W → Calls Tryz.prog 58 #[.slice B p.B.length cB, .slice D s.D.length cD] W (RetQ W d2)) := fun W hW => by rw [Hd2.out]; exact dot_q (M := q.B.length) (HB2.out _ (zaa hb0 (show Below w0.heap.size w0 W from (by (repeat (first | exact Below.refl _ _ | assumption | refine zae ?_ _ | refine zah ?_ | refine zaf ?_ ?_ _ _ _ | refine zaj ?_ (by omega) | refine zaa ?_ (by assumption))); (first | done | fail))))) (HD2.out _ (zaa hb0 (show Below w0.heap.size w0 W from (by (repeat (first | exact Below.refl _ _ | assumption | refine zae ?_ _ | refine zah ?_ | refine zaf ?_ ?_ _ _ _ | refine zaj ?_ (by omega) | refine zaa ?_ (by assumption))); (first | done | fail))))) (Bru.next HB.out (zaa hb0 (show Below w0.heap.size w0 W from (by (repeat (first | exact Below.refl _ _ | assumption | refine zae ?_ _ | refine zah ?_ | refine zaf ?_ ?_ _ _ _ | refine zaj ?_ (by omega) | refine zaa ?_ (by assumption))); (first | done | fail))))) rfl HQ.out.ly HQ.out.good.nB HQ.out.good.szB HQ.out.sy)
          | (go_at_call 58; (with_reducible refine Calls.mono (D5.out _ (by (repeat (first | exact Below.refl _ _ | assumption | refine zae ?_ _ | refine zah ?_ | refine zaf ?_ ?_ _ _ _ | refine zaj ?_ (by omega) | refine zaa ?_ (by assumption))); (first | done | fail))) ?_); rintro e w5 ⟨⟨v5, rfl, hv5⟩, hb5⟩; have V5 := Lib.hid (IsQ.stb.old hv5); obtain ⟨s5, P5, k5, O5, l5, rfl, _, _, _⟩ := zan hv5; have D6 : Hid (∀ W : World, Below w5.heap.size w5 W → Calls Tryz.prog 65 #[.agg #[.bool s5, .slice P5 (lim d2.num.natAbs).length k5, .slice O5 (lim d2.den).length l5], .agg #[.bool s.val.neg, .slice P s.val.num.length cP, .slice Q s.val.den.length cQ]] W (fun e w' => e = .returned (.int .i64 o2) ∧ Below W.heap.size W w')) := fun W hW => by rw [Ho2.out]; exact order_q (IsQ.stb.next V5.out (by (repeat (first | exact Below.refl _ _ | assumption | refine zae ?_ _ | refine zah ?_ | refine zaf ?_ ?_ _ _ _ | refine zaj ?_ (by omega) | refine zaa ?_ (by assumption))); (first | done | fail))) (HZ2.out _ (zaa hb0 (show Below w0.heap.size w0 W from (by (repeat (first | exact Below.refl _ _ | assumption | refine zae ?_ _ | refine zah ?_ | refine zaf ?_ ?_ _ _ _ | refine zaj ?_ (by omega) | refine zaa ?_ (by assumption))); (first | done | fail))))) Hs2.out Hsz.out)
          | (go_at_call 65; (with_reducible refine Calls.mono (D6.out _ (by (repeat (first | exact Below.refl _ _ | assumption | refine zae ?_ _ | refine zah ?_ | refine zaf ?_ ?_ _ _ _ | refine zaj ?_ (by omega) | refine zaa ?_ (by assumption))); (first | done | fail))) ?_); rintro e w6 ⟨rfl, hb6⟩))
      all_goals
        go_wp2_with fail
        go_ret
        exact ⟨rfl, zaa hb0 (show Below w0.heap.size w0 _ from (by (repeat (first | exact Below.refl _ _ | assumption | refine zae ?_ _ | refine zah ?_ | refine zaf ?_ ?_ _ _ _ | refine zaj ?_ (by omega) | refine zaa ?_ (by assumption))); (first | done | fail)))⟩
    | true =>
      go_enter Tryz.func196, Tryz.ntmps196
      go_wp2_with fail
      clear hw0
      have HS : Hid (∀ W : World, Below w0.heap.size w0 W → W.cell? ⟨w.heap.size, 1, none⟩ = some (.slice B p.B.length cB) ∧ W.cell? ⟨w.heap.size, 2, none⟩ = some (.slice C p.C.length cC) ∧ W.cell? ⟨w.heap.size, 4, none⟩ = some (.bool s.val.neg) ∧ W.cell? ⟨w.heap.size, 5, none⟩ = some (.slice P s.val.num.length cP) ∧ W.cell? ⟨w.heap.size, 6, none⟩ = some (.slice Q s.val.den.length cQ) ∧ W.cell? ⟨w.heap.size, 7, none⟩ = some (.slice X s.X.length cX) ∧ W.cell? ⟨w.heap.size, 8, none⟩ = some (.slice D s.D.length cD)) := fun W hW => ⟨zab hW c1, zab hW c2, zab hW c4, zab hW c5, zab hW c6, zab hW c7, zab hW c8⟩
      have D3 : Hid (∀ W : World, Below w0.heap.size w0 W → Calls Tryz.prog 58 #[.slice C p.C.length cC, .slice X s.X.length cX] W (RetQ W d1)) := fun W hW => by rw [Hd1.out]; exact dot_q (M := q.C.length) (HC2.out _ (zaa hb0 (show Below w0.heap.size w0 W from (by (repeat (first | exact Below.refl _ _ | assumption | refine zae ?_ _ | refine zah ?_ | refine zaf ?_ ?_ _ _ _ | refine zaj ?_ (by omega) | refine zaa ?_ (by assumption))); (first | done | fail))))) (HX2.out _ (zaa hb0 (show Below w0.heap.size w0 W from (by (repeat (first | exact Below.refl _ _ | assumption | refine zae ?_ _ | refine zah ?_ | refine zaf ?_ ?_ _ _ _ | refine zaj ?_ (by omega) | refine zaa ?_ (by assumption))); (first | done | fail))))) (Bru.next HB.out (zaa hb0 (show Below w0.heap.size w0 W from (by (repeat (first | exact Below.refl _ _ | assumption | refine zae ?_ _ | refine zah ?_ | refine zaf ?_ ?_ _ _ _ | refine zaj ?_ (by omega) | refine zaa ?_ (by assumption))); (first | done | fail))))) rfl HQ.out.lx HQ.out.good.nC HQ.out.good.szC HQ.out.sx
      go_region_held3 (fun w' => w'.cell? ⟨w.heap.size, 1, none⟩ = some (.slice B p.B.length cB) ∧ w'.cell? ⟨w.heap.size, 2, none⟩ = some (.slice C p.C.length cC) ∧ w'.cell? ⟨w.heap.size, 4, none⟩ = some (.bool s.val.neg) ∧ w'.cell? ⟨w.heap.size, 5, none⟩ = some (.slice P s.val.num.length cP) ∧ w'.cell? ⟨w.heap.size, 6, none⟩ = some (.slice Q s.val.den.length cQ) ∧ w'.cell? ⟨w.heap.size, 7, none⟩ = some (.slice X s.X.length cX) ∧ w'.cell? ⟨w.heap.size, 8, none⟩ = some (.slice D s.D.length cD))
        (exact HS.out _ (by (repeat (first | exact Below.refl _ _ | assumption | refine zae ?_ _ | refine zah ?_ | refine zaf ?_ ?_ _ _ _ | refine zaj ?_ (by omega) | refine zaa ?_ (by assumption))); (first | done | fail)))
        (first
          | (go_at_call 58; (with_reducible refine Calls.mono (D3.out _ (by (repeat (first | exact Below.refl _ _ | assumption | refine zae ?_ _ | refine zah ?_ | refine zaf ?_ ?_ _ _ _ | refine zaj ?_ (by omega) | refine zaa ?_ (by assumption))); (first | done | fail))) ?_); rintro e w3 ⟨⟨v3, rfl, hv3⟩, hb3⟩; have V3 := Lib.hid (IsQ.stb.old hv3); obtain ⟨s3, P3, k3, O3, l3, rfl, _, _, _⟩ := zan hv3; have D4 : Hid (∀ W : World, Below w3.heap.size w3 W → Calls Tryz.prog 65 #[.agg #[.bool s3, .slice P3 (lim d1.num.natAbs).length k3, .slice O3 (lim d1.den).length l3], .agg #[.bool s.val.neg, .slice P s.val.num.length cP, .slice Q s.val.den.length cQ]] W (fun e w' => e = .returned (.int .i64 o1) ∧ Below W.heap.size W w')) := fun W hW => by rw [Ho1.out]; exact order_q (IsQ.stb.next V3.out (by (repeat (first | exact Below.refl _ _ | assumption | refine zae ?_ _ | refine zah ?_ | refine zaf ?_ ?_ _ _ _ | refine zaj ?_ (by omega) | refine zaa ?_ (by assumption))); (first | done | fail))) (HZ2.out _ (zaa hb0 (show Below w0.heap.size w0 W from (by (repeat (first | exact Below.refl _ _ | assumption | refine zae ?_ _ | refine zah ?_ | refine zaf ?_ ?_ _ _ _ | refine zaj ?_ (by omega) | refine zaa ?_ (by assumption))); (first | done | fail))))) Hs1.out Hsz.out)
          | (go_at_call 65; (with_reducible refine Calls.mono (D4.out _ (by (repeat (first | exact Below.refl _ _ | assumption | refine zae ?_ _ | refine zah ?_ | refine zaf ?_ ?_ _ _ _ | refine zaj ?_ (by omega) | refine zaa ?_ (by assumption))); (first | done | fail))) ?_); rintro e w4 ⟨rfl, hb4⟩; have D5 : Hid (∀ W : World, Below w4.heap.size w4 W → Calls Tryz.prog 58 #[.slice B p.B.length cB, .slice D s.D.length cD] W (RetQ W d2)) := fun W hW => by rw [Hd2.out]; exact dot_q (M := q.B.length) (HB2.out _ (zaa hb0 (show Below w0.heap.size w0 W from (by (repeat (first | exact Below.refl _ _ | assumption | refine zae ?_ _ | refine zah ?_ | refine zaf ?_ ?_ _ _ _ | refine zaj ?_ (by omega) | refine zaa ?_ (by assumption))); (first | done | fail))))) (HD2.out _ (zaa hb0 (show Below w0.heap.size w0 W from (by (repeat (first | exact Below.refl _ _ | assumption | refine zae ?_ _ | refine zah ?_ | refine zaf ?_ ?_ _ _ _ | refine zaj ?_ (by omega) | refine zaa ?_ (by assumption))); (first | done | fail))))) (Bru.next HB.out (zaa hb0 (show Below w0.heap.size w0 W from (by (repeat (first | exact Below.refl _ _ | assumption | refine zae ?_ _ | refine zah ?_ | refine zaf ?_ ?_ _ _ _ | refine zaj ?_ (by omega) | refine zaa ?_ (by assumption))); (first | done | fail))))) rfl HQ.out.ly HQ.out.good.nB HQ.out.good.szB HQ.out.sy)
          | (go_at_call 58; (with_reducible refine Calls.mono (D5.out _ (by (repeat (first | exact Below.refl _ _ | assumption | refine zae ?_ _ | refine zah ?_ | refine zaf ?_ ?_ _ _ _ | refine zaj ?_ (by omega) | refine zaa ?_ (by assumption))); (first | done | fail))) ?_); rintro e w5 ⟨⟨v5, rfl, hv5⟩, hb5⟩; have V5 := Lib.hid (IsQ.stb.old hv5); obtain ⟨s5, P5, k5, O5, l5, rfl, _, _, _⟩ := zan hv5; have D6 : Hid (∀ W : World, Below w5.heap.size w5 W → Calls Tryz.prog 65 #[.agg #[.bool s5, .slice P5 (lim d2.num.natAbs).length k5, .slice O5 (lim d2.den).length l5], .agg #[.bool s.val.neg, .slice P s.val.num.length cP, .slice Q s.val.den.length cQ]] W (fun e w' => e = .returned (.int .i64 o2) ∧ Below W.heap.size W w')) := fun W hW => by rw [Ho2.out]; exact order_q (IsQ.stb.next V5.out (by (repeat (first | exact Below.refl _ _ | assumption | refine zae ?_ _ | refine zah ?_ | refine zaf ?_ ?_ _ _ _ | refine zaj ?_ (by omega) | refine zaa ?_ (by assumption))); (first | done | fail))) (HZ2.out _ (zaa hb0 (show Below w0.heap.size w0 W from (by (repeat (first | exact Below.refl _ _ | assumption | refine zae ?_ _ | refine zah ?_ | refine zaf ?_ ?_ _ _ _ | refine zaj ?_ (by omega) | refine zaa ?_ (by assumption))); (first | done | fail))))) Hs2.out Hsz.out)
          | (go_at_call 65; (with_reducible refine Calls.mono (D6.out _ (by (repeat (first | exact Below.refl _ _ | assumption | refine zae ?_ _ | refine zah ?_ | refine zaf ?_ ?_ _ _ _ | refine zaj ?_ (by omega) | refine zaa ?_ (by assumption))); (first | done | fail))) ?_); rintro e w6 ⟨rfl, hb6⟩))
      all_goals
        go_wp2_with fail
        go_ret
        exact ⟨rfl, zaa hb0 (show Below w0.heap.size w0 _ from (by (repeat (first | exact Below.refl _ _ | assumption | refine zae ?_ _ | refine zah ?_ | refine zaf ?_ ?_ _ _ _ | refine zaj ?_ (by omega) | refine zaa ?_ (by assumption))); (first | done | fail)))⟩
set_option maxRecDepth 100000 in
set_option maxHeartbeats 4000000 in
theorem optProves_l {w : World} {v : Value} {p : Prog} {s : Sol} {b2 b3 : Bool} (h : IsPS w (Old w) v p s) (hB : Bru w) (h2 : zch p s = true → ∃ q x y z, OptQ p s q x y z ∧ b2 = zds q x y ∧ b3 = optEqual q x y z) :
    Calls Tryz.prog 197 #[v] w fun e w' => e = .returned (.bool (zch p s && b2 && b3)) ∧ Below w.heap.size w w' := by
  have H := Lib.hid h
  have HB := Lib.hid hB
  have H2 := Lib.hid h2
  obtain ⟨A, cA, B, cB, C, cC, P, cP, Q, cQ, X, cX, D, cD, R, cR, rfl, _⟩ := h
  clear hB h2
  have C1 : Hid (∀ W0, Below w.heap.size w W0 → Chk W0 198 (.agg #[.slice A p.A.length cA, .slice B p.B.length cB, .slice C p.C.length cC, .int .i64 s.st, .bool s.val.neg, .slice P s.val.num.length cP, .slice Q s.val.den.length cQ, .slice X s.X.length cX, .slice D s.D.length cD, .slice R s.R.length cR]) (zch p s)) := fun W0 h0 W hW => optProper_l (IsPS.to H.out (zag (zaa h0 hW))) (Bru.next HB.out (zaa h0 hW))
  have C2 : Hid (zch p s = true → ∀ W0, Below w.heap.size w W0 → Chk W0 199 (.agg #[.slice A p.A.length cA, .slice B p.B.length cB, .slice C p.C.length cC, .int .i64 s.st, .bool s.val.neg, .slice P s.val.num.length cP, .slice Q s.val.den.length cQ, .slice X s.X.length cX, .slice D s.D.length cD, .slice R s.R.length cR]) b2) := fun hp W0 h0 W hW => by
    obtain ⟨q, x, y, z, hq, e2, _⟩ := H2.out hp
    rw [e2]
    exact optPossible_l (IsPS.to H.out (zag (zaa h0 hW))) (Bru.next HB.out (zaa h0 hW)) hq
  have C3 : Hid (zch p s = true → ∀ W0, Below w.heap.size w W0 → Chk W0 196 (.agg #[.slice A p.A.length cA, .slice B p.B.length cB, .slice C p.C.length cC, .int .i64 s.st, .bool s.val.neg, .slice P s.val.num.length cP, .slice Q s.val.den.length cQ, .slice X s.X.length cX, .slice D s.D.length cD, .slice R s.R.length cR]) b3) := fun hp W0 h0 W hW => by
    obtain ⟨q, x, y, z, hq, _, e3⟩ := H2.out hp
    rw [e3]
    exact optEqual_l (IsPS.to H.out (zag (zaa h0 hW))) (Bru.next HB.out (zaa h0 hW)) hq
  obtain ⟨w0, hw0, hb0, rA, Hz⟩ := zbm w #[.slice A p.A.length cA, .slice B p.B.length cB, .slice C p.C.length cC, .int .i64 s.st, .bool s.val.neg, .slice P s.val.num.length cP, .slice Q s.val.den.length cQ, .slice X s.X.length cX, .slice D s.D.length cD, .slice R s.R.length cR] 86
  have c0 := (rA.cell 0 : w0.cell? ⟨w.heap.size, 0, none⟩ = some _)
  have c1 := (rA.cell 1 : w0.cell? ⟨w.heap.size, 1, none⟩ = some _)
  have c2 := (rA.cell 2 : w0.cell? ⟨w.heap.size, 2, none⟩ = some _)
  have c3 := (rA.cell 3 : w0.cell? ⟨w.heap.size, 3, none⟩ = some _)
  have c4 := (rA.cell 4 : w0.cell? ⟨w.heap.size, 4, none⟩ = some _)
  have c5 := (rA.cell 5 : w0.cell? ⟨w.heap.size, 5, none⟩ = some _)
  have c6 := (rA.cell 6 : w0.cell? ⟨w.heap.size, 6, none⟩ = some _)
  have c7 := (rA.cell 7 : w0.cell? ⟨w.heap.size, 7, none⟩ = some _)
  have c8 := (rA.cell 8 : w0.cell? ⟨w.heap.size, 8, none⟩ = some _)
  have c9 := (rA.cell 9 : w0.cell? ⟨w.heap.size, 9, none⟩ = some _)
  obtain ⟨w1, hw1, hb1, rF, Hz1⟩ := zbm w0 #[.func (.func 198) #[.agg #[.slice A p.A.length cA, .slice B p.B.length cB, .slice C p.C.length cC, .int .i64 s.st, .bool s.val.neg, .slice P s.val.num.length cP, .slice Q s.val.den.length cQ, .slice X s.X.length cX, .slice D s.D.length cD, .slice R s.R.length cR]] #[], .func (.func 199) #[.agg #[.slice A p.A.length cA, .slice B p.B.length cB, .slice C p.C.length cC, .int .i64 s.st, .bool s.val.neg, .slice P s.val.num.length cP, .slice Q s.val.den.length cQ, .slice X s.X.length cX, .slice D s.D.length cD, .slice R s.R.length cR]] #[], .func (.func 196) #[.agg #[.slice A p.A.length cA, .slice B p.B.length cB, .slice C p.C.length cC, .int .i64 s.st, .bool s.val.neg, .slice P s.val.num.length cP, .slice Q s.val.den.length cQ, .slice X s.X.length cX, .slice D s.D.length cD, .slice R s.R.length cR]] #[]] 199
  have HB1 := Lib.hid (zaa hb0 hb1)
  have RF := Lib.hid rF
  clear hb0 rA hb1 rF
  go_enter Tryz.func197, Tryz.ntmps197
  go_wp2_with fail
  refine (all_l (b2 := b2) (b3 := b3) RF.out (fun _ => by kernel_rfl) (fun _ => by kernel_rfl) (fun _ => by kernel_rfl) (C1.out _ HB1.out) (fun hp => C2.out hp _ HB1.out) (fun hp _ => C3.out hp _ HB1.out)).mono ?_
  rintro e w2 ⟨rfl, hb⟩
  clear hw0 hw1
  go_wp2_with fail
  go_ret
  exact ⟨rfl, zaa HB1.out hb⟩
end Go.Proofs.YtblpaocignlpkaaGreatDoor
