/-
  The walk of the law DualKnown.
-/
import Derived.Test.YtblpaocignlpkaaDoorBase17
import Derived.Test.YtblpaocignlpkaaDoorProofDualKnown02
namespace Go.Proofs.YtblpaocignlpkaaDoor
open Go.RowKit
set_option linter.unusedVariables false

theorem ex_giv1 (x : List Int) (hx : x.length = 2) (sx : ∀ e ∈ x, e.natAbs ≤ 1000000) : givE (rawP exQ) [(rawP exQ).C.length] [rawV (wholeQ x)] = 0 := by
  unfold givE
  rw [if_neg (by rw [chkP_raw good_ex]; simp)]
  have e1 : (rawP exQ).C.length = 2 := rfl
  have h1 : chkV (rawV (wholeQ x)) = 0 := chkV_raw (by rw [wholeQ_len, hx]; omega) (whole_sz sx)
  have h2 : vecE 2 (rawV (wholeQ x)) = 0 := by
    unfold vecE
    rw [if_neg (by rw [h1]; simp), if_neg (by rw [rawV_len, wholeQ_len, hx]; simp)]
  rw [e1]
  simp only [List.zipWith_cons_cons, List.zipWith_nil_left, fstE, h2]
  rfl
theorem ex_giv1_short : givE (rawP exQ) [(rawP exQ).C.length] [rawV (wholeQ [4])] = 10 := by
  unfold givE
  rw [if_neg (by rw [chkP_raw good_ex]; simp)]
  have e1 : (rawP exQ).C.length = 2 := rfl
  have h1 : chkV (rawV (wholeQ [4])) = 0 := chkV_raw (by decide) (whole_sz (by decide))
  have h2 : vecE 2 (rawV (wholeQ [4])) = 10 := by
    unfold vecE
    rw [if_neg (by rw [h1]; simp), if_pos (by rw [rawV_len, wholeQ_len]; decide)]
  rw [e1]
  simp only [List.zipWith_cons_cons, List.zipWith_nil_left, fstE, h2]
  rfl
theorem ex_f40 : feasB exQ.A exQ.B (wholeQ [4, 0]) = true := by decide +kernel
theorem ex_f41 : feasB exQ.A exQ.B (wholeQ [4, 1]) = false := by decide +kernel
theorem ex_t50 : tightE exQ (wholeQ [5, 0]) = 13 := by decide +kernel
theorem ex_t40 : tightE exQ (wholeQ [4, 0]) = 0 ∧ tightR exQ (wholeQ [4, 0]) = [0] := by decide +kernel
theorem ex_t31 : tightE exQ (wholeQ [3, 1]) = 0 ∧ tightR exQ (wholeQ [3, 1]) = [0, 1] := by decide +kernel
theorem ex_p30 : feasB exQ.A exQ.B (wholeQ [4, 0]) = true ∧ sufB exQ.A exQ.C (wholeQ [3, 0]) = true := by decide +kernel
theorem ex_p20 : ¬ (feasB exQ.A exQ.B (wholeQ [4, 0]) = true ∧ sufB exQ.A exQ.C (wholeQ [2, 0]) = true) := by decide +kernel
theorem ex_p31 : feasB exQ.A exQ.B (wholeQ [3, 1]) = true ∧ sufB exQ.A exQ.C (wholeQ [3, 0]) = true := by decide +kernel
theorem ex_gap0 : dotQ exQ.B (wholeQ [3, 0]) - dotQ exQ.C (wholeQ [4, 0]) = quotQ 0 1 := by decide +kernel
theorem gap_zero : gapR (quotQ 0 1) = raw (quotQ 0 1) ∧ gapE (quotQ 0 1) = 0 := by
  have h : fitsQ (quotQ 0 1) = true := fitsQ_true.2 ((quot_sz (by decide) (by decide) (by decide)).le (by omega))
  unfold gapR gapE
  rw [h]
  exact ⟨rfl, rfl⟩
theorem ex_s40 : slackB exQ.A exQ.B exQ.C (wholeQ [4, 0]) (wholeQ [3, 0]) = true := by decide +kernel
theorem ex_s31 : slackB exQ.A exQ.B exQ.C (wholeQ [3, 1]) (wholeQ [3, 0]) = false := by decide +kernel
def otherS : Sol := ⟨1, raw (quotQ 13 1), rawV (wholeQ [4, 0]), rawV (wholeQ [3, 0]), []⟩
def noneS : Sol := ⟨4, raw (quotQ 12 1), rawV (wholeQ [4, 0]), rawV (wholeQ [3, 0]), []⟩
theorem other_opt : OptQ (rawP exQ) otherS exQ (wholeQ [4, 0]) (wholeQ [3, 0]) (quotQ 13 1) :=
  ⟨rfl, good_ex, rfl, rfl, rfl, rfl, rfl, whole_sz (by decide), whole_sz (by decide), (quot_sz (by decide) (by decide) (by decide)).le (by omega)⟩
theorem other_proper : optProper (rawP exQ) otherS = true := by
  unfold optProper
  have h1 : properB otherS.X (rawP exQ).C.length = true := properB_of (q := wholeQ [4, 0]) rfl (by decide) (whole_sz (by decide))
  have h2 : properB otherS.D (rawP exQ).B.length = true := properB_of (q := wholeQ [3, 0]) rfl (by decide) (whole_sz (by decide))
  have h3 : chkQ otherS.val = 0 := chkQ_raw ((quot_sz (by decide) (by decide) (by decide)).le (by omega))
  rw [h1, h2, h3]
  rfl
theorem ex_other : optPossible exQ (wholeQ [4, 0]) (wholeQ [3, 0]) = true ∧ optEqual exQ (wholeQ [4, 0]) (wholeQ [3, 0]) (quotQ 13 1) = false := by decide +kernel
/-- A list of ints that lies in a row. -/
theorem isIs_row {w : World} {g : Nat} {t : TypeId} {l : List Nat} {n : Nat} (h : Row w g t (l.map fun (x : Nat) => Value.int .i64 (x : Int))) (hn : n = l.length) (hl : l.length ≤ 1000) : IsIs w (Old w) (.slice (some ⟨g, 0, none⟩) n n) l := by
  subst hn
  refine ⟨some ⟨g, 0, none⟩, l.length, l.map fun (x : Nat) => Value.int .i64 (x : Int), rfl, Nat.le_refl _, by unfold maxLen; omega, fun x0 => ⟨g, 0, rfl, h.lt, fun j v hv => ?_⟩, ?_, ?_⟩
  · have hc : cellsOf (l.map fun (x : Nat) => Value.int .i64 (x : Int)) = l.map fun (x : Nat) => Value.int .i64 (x : Int) := by
      clear h hv hl x0
      induction l with
      | nil => rfl
      | cons a l ih => rw [List.map_cons, cellsOf, List.flatMap_cons, ← cellsOf, ih]; rfl
    rw [hc] at hv
    rw [Nat.zero_add, h.cell j]
    exact hv
  · intro v hv
    obtain ⟨x, _, rfl⟩ := List.mem_map.1 hv
    rfl
  · refine ⟨by simp, fun j x y hx hy => ?_⟩
    rw [List.getElem?_map, hy] at hx
    cases hx
    rfl

set_option maxRecDepth 100000 in
set_option maxHeartbeats 2000000 in
theorem tightx_l {w : World} {vx vw : Value} {x : List Int} {l : List Nat} (hx : IsV w (Old w) vx (rawV (wholeQ x))) (hw : IsIs w (Old w) vw l) (hB : Bru w) (hl : x.length = 2) (hs : ∀ e ∈ x, e.natAbs ≤ 1000000) (ht : tightE exQ (wholeQ x) = 0 ∧ tightR exQ (wholeQ x) = l) :
    Calls Tryd.prog 17 #[vx, vw] w fun e w' => e = .returned (.bool true) ∧ Below w.heap.size w w' := by
  have HX := Lib.hid hx
  have HW := Lib.hid hw
  have HB := Lib.hid hB
  have HT := Lib.hid ht
  have HL := Lib.hid hl
  have HS := Lib.hid hs
  have ex := (isV_len hx)
  obtain ⟨A, c, _, rfl, _⟩ := hw
  obtain ⟨B, d, rfl, _⟩ := ex
  clear hx hB ht hl hs
  go_enter Tryd.func17, Tryd.ntmps17
  go_wp2_with fail
  refine (example_l _).mono ?_
  rintro e w1 ⟨⟨v1, rfl, h1⟩, hb1⟩
  have H1 := Lib.hid h1
  have B1 := Lib.hid hb1
  clear h1 hb1
  go_wp2_with fail
  refine (tight_good (q := exQ) H1.out (IsV.stb.next HX.out B1.out) (Bru.next HB.out B1.out) good_ex (ex_giv1 x HL.out HS.out) (by rw [wholeQ_len]; exact HL.out) (whole_sz HS.out)).mono ?_
  rw [HT.out.1, HT.out.2]
  rintro e w2 ⟨⟨v2, rfl, h2⟩, hb2⟩
  have H2 := Lib.hid h2
  have B2 := Lib.hid (below_step B1.out hb2)
  clear h2 hb2
  go_wp2_with fail
  refine (alike_i H2.out (IsIs.stb.to HW.out (same_old B2.out))).mono ?_
  rw [decide_eq_true rfl]
  rintro e w3 ⟨rfl, hb3⟩
  go_wp2_with fail
  go_ret
  exact ⟨rfl, below_step B2.out hb3⟩


theorem open174 {l : List Value} (h : l.length = 174) : ∃ fs : Nat → Value, l = [fs 0, fs 1, fs 2, fs 3, fs 4, fs 5, fs 6, fs 7, fs 8, fs 9, fs 10, fs 11, fs 12, fs 13, fs 14, fs 15, fs 16, fs 17, fs 18, fs 19, fs 20, fs 21, fs 22, fs 23, fs 24, fs 25, fs 26, fs 27, fs 28, fs 29, fs 30, fs 31, fs 32, fs 33, fs 34, fs 35, fs 36, fs 37, fs 38, fs 39, fs 40, fs 41, fs 42, fs 43, fs 44, fs 45, fs 46, fs 47, fs 48, fs 49, fs 50, fs 51, fs 52, fs 53, fs 54, fs 55, fs 56, fs 57, fs 58, fs 59, fs 60, fs 61, fs 62, fs 63, fs 64, fs 65, fs 66, fs 67, fs 68, fs 69, fs 70, fs 71, fs 72, fs 73, fs 74, fs 75, fs 76, fs 77, fs 78, fs 79, fs 80, fs 81, fs 82, fs 83, fs 84, fs 85, fs 86, fs 87, fs 88, fs 89, fs 90, fs 91, fs 92, fs 93, fs 94, fs 95, fs 96, fs 97, fs 98, fs 99, fs 100, fs 101, fs 102, fs 103, fs 104, fs 105, fs 106, fs 107, fs 108, fs 109, fs 110, fs 111, fs 112, fs 113, fs 114, fs 115, fs 116, fs 117, fs 118, fs 119, fs 120, fs 121, fs 122, fs 123, fs 124, fs 125, fs 126, fs 127, fs 128, fs 129, fs 130, fs 131, fs 132, fs 133, fs 134, fs 135, fs 136, fs 137, fs 138, fs 139, fs 140, fs 141, fs 142, fs 143, fs 144, fs 145, fs 146, fs 147, fs 148, fs 149, fs 150, fs 151, fs 152, fs 153, fs 154, fs 155, fs 156, fs 157, fs 158, fs 159, fs 160, fs 161, fs 162, fs 163, fs 164, fs 165, fs 166, fs 167, fs 168, fs 169, fs 170, fs 171, fs 172, fs 173] := by
  refine ⟨fun i => l.getD i undef, ?_⟩
  have e : l = (List.range 174).map (fun i => l.getD i undef) := by
    apply List.ext_getElem
    · simp [h]
    · intro i h1 h2
      simp [List.getD_eq_getElem?_getD, List.getElem?_eq_getElem h1]
  exact e.trans rfl
/-- What each operation of a region holds. -/
def Kn11 (u : Unit) (i : Nat) (v : Value) (w : World) : Prop :=
  match i with
  | 0 => v = .int .i64 0
  | 1 => v = .bool false
  | 2 => v = .bool false
  | 3 => false = false → IsR w (Old w) v (raw (quotQ 0 1))
  | 4 => false = false → IsQ w (Old w) v (quotQ 0 1)
  | 5 => false = false → v = .bool true
  | 6 => false = false → v = .bool false
  | 7 => v = .bool false
  | 8 => v = .bool false
  | 9 => false = false → v = .int .i64 13
  | 10 => false = false → v = .bool false
  | 11 => v = .bool false
  | 12 => v = .bool false
  | 13 => false = false → v = .bool true
  | 14 => false = false → v = .bool false
  | 15 => v = .bool false
  | 16 => v = .bool false
  | 17 => false = false → v = .int .i64 0
  | 18 => false = false → v = .bool false
  | 19 => v = .bool false
  | 20 => v = .bool false
  | 21 => false = false → v = .bool false
  | 22 => v = .bool false
  | 23 => v = .bool false
  | 24 => false = false → v = .int .i64 0
  | 25 => false = false → v = .bool false
  | 26 => v = .bool false
  | _ => True
theorem kn11_stb (u : Unit) : ∀ (i : Nat) (v : Value) (w w' : World), Kn11 u i v w → Below w.heap.size w w' → Kn11 u i v w' := fun i v w w' h hb => match i, h with
  | 0, h => h
  | 1, h => h
  | 2, h => h
  | 3, h => fun hc => IsR.stb.next (h hc) hb
  | 4, h => fun hc => IsQ.stb.next (h hc) hb
  | 5, h => h
  | 6, h => h
  | 7, h => h
  | 8, h => h
  | 9, h => h
  | 10, h => h
  | 11, h => h
  | 12, h => h
  | 13, h => h
  | 14, h => h
  | 15, h => h
  | 16, h => h
  | 17, h => h
  | 18, h => h
  | 19, h => h
  | 20, h => h
  | 21, h => h
  | 22, h => h
  | 23, h => h
  | 24, h => h
  | 25, h => h
  | 26, h => h
  | _ + 27, _ => trivial
/-- What each operation of a region holds. -/
def Kn16 (s3 : Bool) (P3 : Option Addr) (k3 : Nat) (O3 : Option Addr) (l3 : Nat) (A1 : Option Addr) (a1 : Nat) (D1 : Option Addr) (d1 : Nat) (R1 : Option Addr) (r1 : Nat) (P2 : Option Addr) (k2 : Nat) (Q2 : Option Addr) (l2 : Nat) (A2 : Option Addr) (a2 : Nat) (D2 : Option Addr) (d2 : Nat) (R2 : Option Addr) (r2 : Nat) (i : Nat) (v : Value) (w : World) : Prop :=
  match i with
  | 0 => IsP w (Old w) v (rawP exQ)
  | 1 => v = .agg #[.int .i64 bestS.st, .bool s3, .slice P3 (lim (quotQ 13 1).num.natAbs).length k3, .slice O3 (lim (quotQ 13 1).den).length l3, .slice A1 bestS.X.length a1, .slice D1 bestS.D.length d1, .slice R1 bestS.R.length r1]
  | 2 => v = .tuple #[.bool false, .int .i64 0]
  | 3 => v = .tuple #[.bool false, .int .i64 0]
  | 4 => v = .bool false
  | 5 => v = .int .i64 0
  | 6 => v = .bool false
  | 7 => v = .int .i64 0
  | _ => True
theorem kn16_stb (s3 : Bool) (P3 : Option Addr) (k3 : Nat) (O3 : Option Addr) (l3 : Nat) (A1 : Option Addr) (a1 : Nat) (D1 : Option Addr) (d1 : Nat) (R1 : Option Addr) (r1 : Nat) (P2 : Option Addr) (k2 : Nat) (Q2 : Option Addr) (l2 : Nat) (A2 : Option Addr) (a2 : Nat) (D2 : Option Addr) (d2 : Nat) (R2 : Option Addr) (r2 : Nat) : ∀ (i : Nat) (v : Value) (w w' : World), Kn16 s3 P3 k3 O3 l3 A1 a1 D1 d1 R1 r1 P2 k2 Q2 l2 A2 a2 D2 d2 R2 r2 i v w → Below w.heap.size w w' → Kn16 s3 P3 k3 O3 l3 A1 a1 D1 d1 R1 r1 P2 k2 Q2 l2 A2 a2 D2 d2 R2 r2 i v w' := fun i v w w' h hb => match i, h with
  | 0, h => IsP.stb.next h hb
  | 1, h => h
  | 2, h => h
  | 3, h => h
  | 4, h => h
  | 5, h => h
  | 6, h => h
  | 7, h => h
  | _ + 8, _ => trivial
/-- What each operation of a region holds. -/
def Kn17 (s3 : Bool) (P3 : Option Addr) (k3 : Nat) (O3 : Option Addr) (l3 : Nat) (A1 : Option Addr) (a1 : Nat) (D1 : Option Addr) (d1 : Nat) (R1 : Option Addr) (r1 : Nat) (P2 : Option Addr) (k2 : Nat) (Q2 : Option Addr) (l2 : Nat) (A2 : Option Addr) (a2 : Nat) (D2 : Option Addr) (d2 : Nat) (R2 : Option Addr) (r2 : Nat) (i : Nat) (v : Value) (w : World) : Prop :=
  match i with
  | 0 => IsP w (Old w) v (rawP exQ)
  | 1 => v = .agg #[.int .i64 4, .bool bestS.val.neg, .slice P2 bestS.val.num.length k2, .slice Q2 bestS.val.den.length l2, .slice A2 bestS.X.length a2, .slice D2 bestS.D.length d2, .slice R2 bestS.R.length r2]
  | 2 => v = .tuple #[.bool false, .int .i64 0]
  | 3 => v = .tuple #[.bool false, .int .i64 0]
  | 4 => v = .bool false
  | 5 => v = .int .i64 0
  | 6 => v = .bool false
  | 7 => v = .int .i64 0
  | _ => True
theorem kn17_stb (s3 : Bool) (P3 : Option Addr) (k3 : Nat) (O3 : Option Addr) (l3 : Nat) (A1 : Option Addr) (a1 : Nat) (D1 : Option Addr) (d1 : Nat) (R1 : Option Addr) (r1 : Nat) (P2 : Option Addr) (k2 : Nat) (Q2 : Option Addr) (l2 : Nat) (A2 : Option Addr) (a2 : Nat) (D2 : Option Addr) (d2 : Nat) (R2 : Option Addr) (r2 : Nat) : ∀ (i : Nat) (v : Value) (w w' : World), Kn17 s3 P3 k3 O3 l3 A1 a1 D1 d1 R1 r1 P2 k2 Q2 l2 A2 a2 D2 d2 R2 r2 i v w → Below w.heap.size w w' → Kn17 s3 P3 k3 O3 l3 A1 a1 D1 d1 R1 r1 P2 k2 Q2 l2 A2 a2 D2 d2 R2 r2 i v w' := fun i v w w' h hb => match i, h with
  | 0, h => IsP.stb.next h hb
  | 1, h => h
  | 2, h => h
  | 3, h => h
  | 4, h => h
  | 5, h => h
  | 6, h => h
  | 7, h => h
  | _ + 8, _ => trivial
theorem other_sol {w : World} {P3 O3 A D R : Option Addr} {k3 l3 a d r : Nat} {s3 : Bool} {P Q : Option Addr} {k l : Nat} (h : IsQ w (Old w) (.agg #[.bool s3, .slice P3 (lim (quotQ 13 1).num.natAbs).length k3, .slice O3 (lim (quotQ 13 1).den).length l3]) (quotQ 13 1)) (hs : s3 = decide ((quotQ 13 1).num < 0))
    (h1 : IsSol w (Old w) (.agg #[.int .i64 bestS.st, .bool bestS.val.neg, .slice P bestS.val.num.length k, .slice Q bestS.val.den.length l, .slice A bestS.X.length a, .slice D bestS.D.length d, .slice R bestS.R.length r]) bestS) :
    IsSol w (Old w) (.agg #[.int .i64 bestS.st, .bool s3, .slice P3 (lim (quotQ 13 1).num.natAbs).length k3, .slice O3 (lim (quotQ 13 1).den).length l3, .slice A bestS.X.length a, .slice D bestS.D.length d, .slice R bestS.R.length r]) otherS := by
  obtain ⟨_, _, _, _, _, _, _, _, _, _, e, _, h2, h3, h4⟩ := h1
  cases e
  subst hs
  exact ⟨P3, k3, O3, l3, A, a, D, d, R, r, rfl, h, h2, h3, h4⟩
theorem none_sol {w : World} {A D R : Option Addr} {a d r : Nat} {P Q : Option Addr} {k l : Nat}
    (h1 : IsSol w (Old w) (.agg #[.int .i64 bestS.st, .bool bestS.val.neg, .slice P bestS.val.num.length k, .slice Q bestS.val.den.length l, .slice A bestS.X.length a, .slice D bestS.D.length d, .slice R bestS.R.length r]) bestS) :
    IsSol w (Old w) (.agg #[.int .i64 4, .bool bestS.val.neg, .slice P bestS.val.num.length k, .slice Q bestS.val.den.length l, .slice A bestS.X.length a, .slice D bestS.D.length d, .slice R bestS.R.length r]) noneS := by
  obtain ⟨_, _, _, _, _, _, _, _, _, _, e, h0, h2, h3, h4⟩ := h1
  cases e
  exact ⟨P, k, Q, l, A, a, D, d, R, r, rfl, h0, h2, h3, h4⟩
theorem four_sets {w : World} {g g' n : Nat} {t : TypeId} {a b c d e f h a' b' c' d' e' f' h' : Value} (r1 : Row w g t [a, b, c, d, e, f, h]) (r2 : Row w g' t [a', b', c', d', e', f', h']) (hne : g ≠ g') (x y z u : Value) :
    ∃ W, (((w.setCell ⟨g, 1, none⟩ x).setCell ⟨g, 2, none⟩ y).setCell ⟨g, 3, none⟩ z).setCell ⟨g', 0, none⟩ u = W ∧ Row W g t [a, x, y, z, e, f, h] ∧ Row W g' t [u, b', c', d', e', f', h'] ∧ (∀ S : Nat → Prop, (∀ k, S k → k ≠ g ∧ k ≠ g' ∧ k < w.heap.size) → Same S (Old W) w W) ∧ (∀ m, m ≤ g → m ≤ g' → Below m w W) := by
  refine ⟨_, rfl, ?_, ?_, fun S hS k hk => ?_, fun m h1 h2 => ?_⟩
  · exact (((r1.set_ 1 x).set_ 2 y).set_ 3 z).far (p := ⟨g', 0, none⟩) hne u
  · exact (((r2.far (p := ⟨g, 1, none⟩) hne.symm x).far (p := ⟨g, 2, none⟩) hne.symm y).far (p := ⟨g, 3, none⟩) hne.symm z).set_ 0 u
  · obtain ⟨h1, h2, h3⟩ := hS k hk
    refine ⟨by simpa [Old, World.setCell] using h3, fun o => ?_⟩
    rw [World.cell?_setCell_other _ _ _ _ (fun e => h2 (by cases e; rfl)), World.cell?_setCell_other _ _ _ _ (fun e => h1 (by cases e; rfl)), World.cell?_setCell_other _ _ _ _ (fun e => h1 (by cases e; rfl)), World.cell?_setCell_other _ _ _ _ (fun e => h1 (by cases e; rfl))]
  · exact ((((Below.refl m w).setCell (p := ⟨g, 1, none⟩) h1 x).setCell (p := ⟨g, 2, none⟩) h1 y).setCell (p := ⟨g, 3, none⟩) h1 z).setCell (p := ⟨g', 0, none⟩) h2 u
theorem free7 {w : World} {g : Nat} {t : TypeId} {a b c d e f h : Value} (r : Row w g t [a, b, c, d, e, f, h]) : w.frozen? ⟨g, 0, none⟩ = false ∧ w.frozen? ⟨g, 1, none⟩ = false ∧ w.frozen? ⟨g, 2, none⟩ = false ∧ w.frozen? ⟨g, 3, none⟩ = false ∧ w.frozen? ⟨g, 4, none⟩ = false ∧ w.frozen? ⟨g, 5, none⟩ = false ∧ w.frozen? ⟨g, 6, none⟩ = false :=
  ⟨r.frozen 0, r.frozen 1, r.frozen 2, r.frozen 3, r.frozen 4, r.frozen 5, r.frozen 6⟩
theorem isSolN {w w' : World} {v : Value} {s : Sol} (h : IsSol w (Old w) v s) (hb : Below w.heap.size w w') : IsSol w' (Old w') v s := IsSol.stb.to h (same_old hb)
theorem far7 {w : World} {g g' : Nat} {t : TypeId} {xs : List Value} (hne : g ≠ g') (r : Row w g t xs) (a b c d e f h : Value) : Row (put7 w g' a b c d e f h) g t xs :=
  ((((((r.far (p := ⟨g', 0, none⟩) hne a).far (p := ⟨g', 1, none⟩) hne b).far (p := ⟨g', 2, none⟩) hne c).far (p := ⟨g', 3, none⟩) hne d).far (p := ⟨g', 4, none⟩) hne e).far (p := ⟨g', 5, none⟩) hne f).far (p := ⟨g', 6, none⟩) hne h
/-- Two variables of seven cells. -/
theorem two_sols (w : World) (a b c d e f h a' b' c' d' e' f' h' : Value) : ∃ W, put7 (put7 ((w.alloc (.cells #[.int .i64 0, .bool false, .slice none 0 0, .slice none 0 0, .slice none 0 0, .slice none 0 0, .slice none 0 0] 57)).alloc (.cells #[.int .i64 0, .bool false, .slice none 0 0, .slice none 0 0, .slice none 0 0, .slice none 0 0, .slice none 0 0] 57)) w.heap.size a b c d e f h) (w.heap.size + 1) a' b' c' d' e' f' h' = W ∧ Below w.heap.size w W ∧ Row W w.heap.size 57 [a, b, c, d, e, f, h] ∧ Row W (w.heap.size + 1) 57 [a', b', c', d', e', f', h'] ∧ Hid (W.heap.size = w.heap.size + 2) ∧ True := by
  obtain ⟨we, hwe, hbe, re1, re2, hz⟩ := boxes2 w #[.int .i64 0, .bool false, .slice none 0 0, .slice none 0 0, .slice none 0 0, .slice none 0 0, .slice none 0 0] #[.int .i64 0, .bool false, .slice none 0 0, .slice none 0 0, .slice none 0 0, .slice none 0 0, .slice none 0 0] 57 57
  rw [hwe]
  refine ⟨_, rfl, below_put7 (below_put7 hbe (Nat.le_refl _) _ _ _ _ _ _ _) (by omega) _ _ _ _ _ _ _, far7 (by omega) (Row.put7 re1 a b c d e f h) _ _ _ _ _ _ _, Row.put7 (far7 (by omega) re2 _ _ _ _ _ _ _) _ _ _ _ _ _ _, ?_, trivial⟩
  rw [Hid, size_put7, size_put7]
  exact hz.out


set_option maxRecDepth 100000 in
set_option maxHeartbeats 8000000 in
theorem law_dknown {w : World} (hB : Bru w) : Calls Tryd.prog 4 #[] w fun e w' => e = .returned (.bool true) ∧ Below w.heap.size w w' := by
  have HB := Lib.hid hB
  have BB := Lib.hid (Below.refl w.heap.size w)
  clear hB
  obtain ⟨w0, hw0⟩ : ∃ x, x = w := ⟨_, rfl⟩
  go_enter Tryd.func4, Tryd.ntmps4
  go_wp2_with fail
  clear w0 hw0
  refine (example_l _).mono ?_
  rintro e w1 ⟨⟨vw1, rfl, h⟩, hb⟩
  replace BB := Lib.hid (below_step BB.out hb)
  have P := Lib.hid h
  clear h hb
  go_wp2_with fail
  refine (whole_l (w := w1.alloc (.cells #[.int .i64 4, .int .i64 0] 3)) (l := [4, 0]) (heap_alloc_new w1 _) (by decide) (by decide)).mono ?_
  rintro e w2 ⟨⟨vw2, rfl, h⟩, hb⟩
  have hb' := below_step (below_new w1 _) hb
  replace BB := Lib.hid (below_step BB.out hb')
  replace P := Lib.hid (IsP.stb.next P.out hb')
  have X := Lib.hid (IsV.stb.old h)
  clear h hb hb'
  go_wp2_with fail
  refine (feasible_good (q := exQ) (x := wholeQ [4, 0]) P.out X.out (Bru.next HB.out BB.out) good_ex (ex_giv1 _ rfl (by decide)) rfl (whole_sz (by decide))).mono ?_
  rw [ex_f40]
  rintro e w3 ⟨rfl, hb⟩
  replace BB := Lib.hid (below_step BB.out hb)
  replace P := Lib.hid (IsP.stb.next P.out hb)
  replace X := Lib.hid (IsV.stb.next X.out hb)
  clear hb
  clear P X
  go_wp2_with fail
  refine (example_l _).mono ?_
  rintro e w4 ⟨⟨vw4, rfl, h⟩, hb⟩
  replace BB := Lib.hid (below_step BB.out hb)
  have P := Lib.hid h
  clear h hb
  go_wp2_with fail
  refine (whole_l (w := w4.alloc (.cells #[.int .i64 4, .int .i64 1] 3)) (l := [4, 1]) (heap_alloc_new w4 _) (by decide) (by decide)).mono ?_
  rintro e w5 ⟨⟨vw5, rfl, h⟩, hb⟩
  have hb' := below_step (below_new w4 _) hb
  replace BB := Lib.hid (below_step BB.out hb')
  replace P := Lib.hid (IsP.stb.next P.out hb')
  have X := Lib.hid (IsV.stb.old h)
  clear h hb hb'
  go_wp2_with fail
  refine (feasible_good (q := exQ) (x := wholeQ [4, 1]) P.out X.out (Bru.next HB.out BB.out) good_ex (ex_giv1 _ rfl (by decide)) rfl (whole_sz (by decide))).mono ?_
  rw [ex_f41]
  rintro e w6 ⟨rfl, hb⟩
  replace BB := Lib.hid (below_step BB.out hb)
  replace P := Lib.hid (IsP.stb.next P.out hb)
  replace X := Lib.hid (IsV.stb.next X.out hb)
  clear hb
  clear P X
  go_wp2_with fail
  refine (example_l _).mono ?_
  rintro e w7 ⟨⟨vw7, rfl, h⟩, hb⟩
  replace BB := Lib.hid (below_step BB.out hb)
  have P := Lib.hid h
  clear h hb
  go_wp2_with fail
  refine (whole_l (w := w7.alloc (.cells #[.int .i64 5, .int .i64 0] 3)) (l := [5, 0]) (heap_alloc_new w7 _) (by decide) (by decide)).mono ?_
  rintro e w8 ⟨⟨vw8, rfl, h⟩, hb⟩
  have hb' := below_step (below_new w7 _) hb
  replace BB := Lib.hid (below_step BB.out hb')
  replace P := Lib.hid (IsP.stb.next P.out hb')
  have X := Lib.hid (IsV.stb.old h)
  clear h hb hb'
  go_wp2_with fail
  refine (tight_good (q := exQ) (x := wholeQ [5, 0]) P.out X.out (Bru.next HB.out BB.out) good_ex (ex_giv1 _ rfl (by decide)) rfl (whole_sz (by decide))).mono ?_
  rw [ex_t50]
  rintro e w9 ⟨⟨vT, rfl, hT⟩, hb⟩
  replace BB := Lib.hid (below_step BB.out hb)
  replace P := Lib.hid (IsP.stb.next P.out hb)
  replace X := Lib.hid (IsV.stb.next X.out hb)
  clear hb
  obtain ⟨aT, kT, _, rfl, _⟩ := hT
  clear P X
  go_wp2_with fail
  refine (example_l _).mono ?_
  rintro e w10 ⟨⟨vw10, rfl, h⟩, hb⟩
  replace BB := Lib.hid (below_step BB.out hb)
  have P := Lib.hid h
  clear h hb
  go_wp2_with fail
  refine (whole_l (w := w10.alloc (.cells #[.int .i64 4] 3)) (l := [4]) (heap_alloc_new w10 _) (by decide) (by decide)).mono ?_
  rintro e w11 ⟨⟨vw11, rfl, h⟩, hb⟩
  have hb' := below_step (below_new w10 _) hb
  replace BB := Lib.hid (below_step BB.out hb')
  replace P := Lib.hid (IsP.stb.next P.out hb')
  have X := Lib.hid (IsV.stb.old h)
  clear h hb hb'
  go_wp2_with fail
  refine (feasible_bad (p := rawP exQ) (x := rawV (wholeQ [4])) P.out X.out (Bru.next HB.out BB.out) (by rw [ex_giv1_short]; simp)).mono ?_
  rw [ex_giv1_short]
  rintro e w12 ⟨rfl, hb⟩
  replace BB := Lib.hid (below_step BB.out hb)
  replace P := Lib.hid (IsP.stb.next P.out hb)
  replace X := Lib.hid (IsV.stb.next X.out hb)
  clear hb
  clear P X
  go_wp2_with fail
  refine (whole_l (w := w12.alloc (.cells #[.int .i64 4, .int .i64 0] 3)) (l := [4, 0]) (heap_alloc_new w12 _) (by decide) (by decide)).mono ?_
  rintro e w13 ⟨⟨vw13, rfl, h⟩, hb⟩
  have hb' := below_step (below_new w12 _) hb
  replace BB := Lib.hid (below_step BB.out hb')
  have X := Lib.hid (IsV.stb.old h)
  clear h hb hb'
  go_wp2_with fail
  have hbn := below_new w13 (.cells #[.int .i64 0] 3)
  refine (tightx_l (x := [4, 0]) (l := [0]) (IsV.stb.next X.out hbn) (isIs_row (heap_alloc_new w13 (.cells #[.int .i64 0] 3)) rfl (by decide)) (Bru.next HB.out (below_step BB.out hbn)) rfl (by decide) ex_t40).mono ?_
  rintro e w14 ⟨rfl, hb⟩
  replace hb := below_step hbn hb
  clear hbn
  replace BB := Lib.hid (below_step BB.out hb)
  replace X := Lib.hid (IsV.stb.next X.out hb)
  clear hb
  clear X
  go_wp2_with fail
  refine (whole_l (w := w14.alloc (.cells #[.int .i64 3, .int .i64 1] 3)) (l := [3, 1]) (heap_alloc_new w14 _) (by decide) (by decide)).mono ?_
  rintro e w15 ⟨⟨vw15, rfl, h⟩, hb⟩
  have hb' := below_step (below_new w14 _) hb
  replace BB := Lib.hid (below_step BB.out hb')
  have X := Lib.hid (IsV.stb.old h)
  clear h hb hb'
  go_wp2_with fail
  have hbn := below_new w15 (.cells #[.int .i64 0, .int .i64 1] 3)
  refine (tightx_l (x := [3, 1]) (l := [0, 1]) (IsV.stb.next X.out hbn) (isIs_row (heap_alloc_new w15 (.cells #[.int .i64 0, .int .i64 1] 3)) rfl (by decide)) (Bru.next HB.out (below_step BB.out hbn)) rfl (by decide) ex_t31).mono ?_
  rintro e w16 ⟨rfl, hb⟩
  replace hb := below_step hbn hb
  clear hbn
  replace BB := Lib.hid (below_step BB.out hb)
  replace X := Lib.hid (IsV.stb.next X.out hb)
  clear hb
  clear X
  go_wp2_with fail
  refine (example_l _).mono ?_
  rintro e w17 ⟨⟨vw17, rfl, h⟩, hb⟩
  replace BB := Lib.hid (below_step BB.out hb)
  have P := Lib.hid h
  clear h hb
  go_wp2_with fail
  refine (whole_l (w := w17.alloc (.cells #[.int .i64 4, .int .i64 0] 3)) (l := [4, 0]) (heap_alloc_new w17 _) (by decide) (by decide)).mono ?_
  rintro e w18 ⟨⟨vw18, rfl, h⟩, hb⟩
  have hb' := below_step (below_new w17 _) hb
  replace BB := Lib.hid (below_step BB.out hb')
  replace P := Lib.hid (IsP.stb.next P.out hb')
  have X := Lib.hid (IsV.stb.old h)
  clear h hb hb'
  go_wp2_with fail
  refine (whole_l (w := w18.alloc (.cells #[.int .i64 3, .int .i64 0] 3)) (l := [3, 0]) (heap_alloc_new w18 _) (by decide) (by decide)).mono ?_
  rintro e w19 ⟨⟨vw19, rfl, h⟩, hb⟩
  have hb' := below_step (below_new w18 _) hb
  replace BB := Lib.hid (below_step BB.out hb')
  replace P := Lib.hid (IsP.stb.next P.out hb')
  replace X := Lib.hid (IsV.stb.next X.out hb')
  have Y := Lib.hid (IsV.stb.old h)
  clear h hb hb'
  go_wp2_with fail
  refine (gap_good (q := exQ) (x := wholeQ [4, 0]) (y := wholeQ [3, 0]) (d := quotQ 0 1) P.out X.out Y.out (Bru.next HB.out BB.out) good_ex (fun W hW => pair_good (r := 0) (IsP.stb.next P.out hW) (IsV.stb.next X.out hW) (IsV.stb.next Y.out hW) (Bru.next HB.out (below_step BB.out hW)) good_ex (ex_giv [4, 0] [3, 0] rfl rfl (by decide) (by decide)) rfl (whole_sz (by decide)) rfl (whole_sz (by decide)) (by rw [if_pos ex_p30])) rfl (whole_sz (by decide)) rfl (whole_sz (by decide)) ex_gap0.symm).mono ?_
  rw [gap_zero.1, gap_zero.2]
  rintro e w20 ⟨⟨vG, rfl, hG⟩, hb⟩
  replace BB := Lib.hid (below_step BB.out hb)
  replace P := Lib.hid (IsP.stb.next P.out hb)
  replace X := Lib.hid (IsV.stb.next X.out hb)
  replace Y := Lib.hid (IsV.stb.next Y.out hb)
  clear hb
  have GQ := Lib.hid hG
  obtain ⟨Ga, ga, Gb, gb, rfl, _, _⟩ := hG
  obtain ⟨w21, hwG, hbG, rG, _⟩ := boxes1 w20 #[.bool (raw (quotQ 0 1)).neg, .slice Ga (raw (quotQ 0 1)).num.length ga, .slice Gb (raw (quotQ 0 1)).den.length gb] 50
  clear P X Y
  replace BB := Lib.hid (below_step BB.out hbG)
  replace GQ := Lib.hid (IsR.stb.next GQ.out hbG)
  have RG := Lib.hid rG
  clear rG hbG
  go_wp2_with fail
  refine (example_l _).mono ?_
  rintro e w22 ⟨⟨vw22, rfl, h⟩, hb⟩
  replace BB := Lib.hid (below_step BB.out hb)
  replace GQ := Lib.hid (IsR.stb.next GQ.out hb)
  replace RG := Lib.hid (RG.out.next hb)
  have P := Lib.hid h
  clear h hb
  clear hwG
  go_wp2_with fail
  refine (whole_l (w := w22.alloc (.cells #[.int .i64 4, .int .i64 0] 3)) (l := [4, 0]) (heap_alloc_new w22 _) (by decide) (by decide)).mono ?_
  rintro e w23 ⟨⟨vw23, rfl, h⟩, hb⟩
  have hb' := below_step (below_new w22 _) hb
  replace BB := Lib.hid (below_step BB.out hb')
  replace GQ := Lib.hid (IsR.stb.next GQ.out hb')
  replace RG := Lib.hid (RG.out.next hb')
  replace P := Lib.hid (IsP.stb.next P.out hb')
  have X := Lib.hid (IsV.stb.old h)
  clear h hb hb'
  go_wp2_with fail
  refine (whole_l (w := w23.alloc (.cells #[.int .i64 2, .int .i64 0] 3)) (l := [2, 0]) (heap_alloc_new w23 _) (by decide) (by decide)).mono ?_
  rintro e w24 ⟨⟨vw24, rfl, h⟩, hb⟩
  have hb' := below_step (below_new w23 _) hb
  replace BB := Lib.hid (below_step BB.out hb')
  replace GQ := Lib.hid (IsR.stb.next GQ.out hb')
  replace RG := Lib.hid (RG.out.next hb')
  replace P := Lib.hid (IsP.stb.next P.out hb')
  replace X := Lib.hid (IsV.stb.next X.out hb')
  have Y := Lib.hid (IsV.stb.old h)
  clear h hb hb'
  go_wp2_with fail
  refine (gap_err (p := rawP exQ) (e := 13) P.out (fun W hW => pair_good (r := 13) (IsP.stb.next P.out hW) (IsV.stb.next X.out hW) (IsV.stb.next Y.out hW) (Bru.next HB.out (below_step BB.out hW)) good_ex (ex_giv [4, 0] [2, 0] rfl rfl (by decide) (by decide)) rfl (whole_sz (by decide)) rfl (whole_sz (by decide)) (by rw [if_neg ex_p20])) (by decide)).mono ?_
  rintro e w25 ⟨rfl, hb⟩
  replace BB := Lib.hid (below_step BB.out hb)
  replace GQ := Lib.hid (IsR.stb.next GQ.out hb)
  replace RG := Lib.hid (RG.out.next hb)
  replace P := Lib.hid (IsP.stb.next P.out hb)
  replace X := Lib.hid (IsV.stb.next X.out hb)
  replace Y := Lib.hid (IsV.stb.next Y.out hb)
  clear hb
  clear P X Y
  go_wp2_with fail
  refine (example_l _).mono ?_
  rintro e w26 ⟨⟨vw26, rfl, h⟩, hb⟩
  replace BB := Lib.hid (below_step BB.out hb)
  replace GQ := Lib.hid (IsR.stb.next GQ.out hb)
  replace RG := Lib.hid (RG.out.next hb)
  have P := Lib.hid h
  clear h hb
  go_wp2_with fail
  refine (whole_l (w := w26.alloc (.cells #[.int .i64 4, .int .i64 0] 3)) (l := [4, 0]) (heap_alloc_new w26 _) (by decide) (by decide)).mono ?_
  rintro e w27 ⟨⟨vw27, rfl, h⟩, hb⟩
  have hb' := below_step (below_new w26 _) hb
  replace BB := Lib.hid (below_step BB.out hb')
  replace GQ := Lib.hid (IsR.stb.next GQ.out hb')
  replace RG := Lib.hid (RG.out.next hb')
  replace P := Lib.hid (IsP.stb.next P.out hb')
  have X := Lib.hid (IsV.stb.old h)
  clear h hb hb'
  go_wp2_with fail
  refine (whole_l (w := w27.alloc (.cells #[.int .i64 3, .int .i64 0] 3)) (l := [3, 0]) (heap_alloc_new w27 _) (by decide) (by decide)).mono ?_
  rintro e w28 ⟨⟨vw28, rfl, h⟩, hb⟩
  have hb' := below_step (below_new w27 _) hb
  replace BB := Lib.hid (below_step BB.out hb')
  replace GQ := Lib.hid (IsR.stb.next GQ.out hb')
  replace RG := Lib.hid (RG.out.next hb')
  replace P := Lib.hid (IsP.stb.next P.out hb')
  replace X := Lib.hid (IsV.stb.next X.out hb')
  have Y := Lib.hid (IsV.stb.old h)
  clear h hb hb'
  go_wp2_with fail
  refine (slack_good (q := exQ) (x := wholeQ [4, 0]) (y := wholeQ [3, 0]) P.out X.out Y.out (Bru.next HB.out BB.out) good_ex (fun W hW => pair_good (r := 0) (IsP.stb.next P.out hW) (IsV.stb.next X.out hW) (IsV.stb.next Y.out hW) (Bru.next HB.out (below_step BB.out hW)) good_ex (ex_giv [4, 0] [3, 0] rfl rfl (by decide) (by decide)) rfl (whole_sz (by decide)) rfl (whole_sz (by decide)) (by rw [if_pos ex_p30])) rfl (whole_sz (by decide)) rfl (whole_sz (by decide))).mono ?_
  rw [ex_s40]
  rintro e w29 ⟨rfl, hb⟩
  replace BB := Lib.hid (below_step BB.out hb)
  replace GQ := Lib.hid (IsR.stb.next GQ.out hb)
  replace RG := Lib.hid (RG.out.next hb)
  replace P := Lib.hid (IsP.stb.next P.out hb)
  replace X := Lib.hid (IsV.stb.next X.out hb)
  replace Y := Lib.hid (IsV.stb.next Y.out hb)
  clear hb
  clear P X Y
  go_wp2_with fail
  refine (example_l _).mono ?_
  rintro e w30 ⟨⟨vw30, rfl, h⟩, hb⟩
  replace BB := Lib.hid (below_step BB.out hb)
  replace GQ := Lib.hid (IsR.stb.next GQ.out hb)
  replace RG := Lib.hid (RG.out.next hb)
  have P := Lib.hid h
  clear h hb
  go_wp2_with fail
  refine (whole_l (w := w30.alloc (.cells #[.int .i64 3, .int .i64 1] 3)) (l := [3, 1]) (heap_alloc_new w30 _) (by decide) (by decide)).mono ?_
  rintro e w31 ⟨⟨vw31, rfl, h⟩, hb⟩
  have hb' := below_step (below_new w30 _) hb
  replace BB := Lib.hid (below_step BB.out hb')
  replace GQ := Lib.hid (IsR.stb.next GQ.out hb')
  replace RG := Lib.hid (RG.out.next hb')
  replace P := Lib.hid (IsP.stb.next P.out hb')
  have X := Lib.hid (IsV.stb.old h)
  clear h hb hb'
  go_wp2_with fail
  refine (whole_l (w := w31.alloc (.cells #[.int .i64 3, .int .i64 0] 3)) (l := [3, 0]) (heap_alloc_new w31 _) (by decide) (by decide)).mono ?_
  rintro e w32 ⟨⟨vw32, rfl, h⟩, hb⟩
  have hb' := below_step (below_new w31 _) hb
  replace BB := Lib.hid (below_step BB.out hb')
  replace GQ := Lib.hid (IsR.stb.next GQ.out hb')
  replace RG := Lib.hid (RG.out.next hb')
  replace P := Lib.hid (IsP.stb.next P.out hb')
  replace X := Lib.hid (IsV.stb.next X.out hb')
  have Y := Lib.hid (IsV.stb.old h)
  clear h hb hb'
  go_wp2_with fail
  refine (slack_good (q := exQ) (x := wholeQ [3, 1]) (y := wholeQ [3, 0]) P.out X.out Y.out (Bru.next HB.out BB.out) good_ex (fun W hW => pair_good (r := 0) (IsP.stb.next P.out hW) (IsV.stb.next X.out hW) (IsV.stb.next Y.out hW) (Bru.next HB.out (below_step BB.out hW)) good_ex (ex_giv [3, 1] [3, 0] rfl rfl (by decide) (by decide)) rfl (whole_sz (by decide)) rfl (whole_sz (by decide)) (by rw [if_pos ex_p31])) rfl (whole_sz (by decide)) rfl (whole_sz (by decide))).mono ?_
  rw [ex_s31]
  rintro e w33 ⟨rfl, hb⟩
  replace BB := Lib.hid (below_step BB.out hb)
  replace GQ := Lib.hid (IsR.stb.next GQ.out hb)
  replace RG := Lib.hid (RG.out.next hb)
  replace P := Lib.hid (IsP.stb.next P.out hb)
  replace X := Lib.hid (IsV.stb.next X.out hb)
  replace Y := Lib.hid (IsV.stb.next Y.out hb)
  clear hb
  clear P X Y
  go_wp2_with fail
  refine region_abs fun ops hops => ?_
  have oq0 := op_at (j := 0) hops rfl
  have oq1 := op_at (j := 1) hops rfl
  have oq2 := op_at (j := 2) hops rfl
  have oq3 := op_at (j := 3) hops rfl
  have oq4 := op_at (j := 4) hops rfl
  have oq5 := op_at (j := 5) hops rfl
  have oq6 := op_at (j := 6) hops rfl
  have oq7 := op_at (j := 7) hops rfl
  have oq8 := op_at (j := 8) hops rfl
  have oq9 := op_at (j := 9) hops rfl
  have oq10 := op_at (j := 10) hops rfl
  have oq11 := op_at (j := 11) hops rfl
  have oq12 := op_at (j := 12) hops rfl
  have oq13 := op_at (j := 13) hops rfl
  have oq14 := op_at (j := 14) hops rfl
  have oq15 := op_at (j := 15) hops rfl
  have oq16 := op_at (j := 16) hops rfl
  have oq17 := op_at (j := 17) hops rfl
  have oq18 := op_at (j := 18) hops rfl
  have oq19 := op_at (j := 19) hops rfl
  have oq20 := op_at (j := 20) hops rfl
  have oq21 := op_at (j := 21) hops rfl
  have oq22 := op_at (j := 22) hops rfl
  have oq23 := op_at (j := 23) hops rfl
  have oq24 := op_at (j := 24) hops rfl
  have oq25 := op_at (j := 25) hops rfl
  have oq26 := op_at (j := 26) hops rfl
  have fr := fun t h => slot_abs hops t h
  refine wp_region_grow (Kn11 ()) (by kernel_rfl) (kn11_stb ()) (by rw [hops]; kernel_rfl) ?step ?fin
  case step =>
    intro i o hi a W hsz hdf hbw hfree hdep
    obtain ⟨T, df⟩ := a
    replace hsz : T.size = 174 := hsz
    obtain rfl : df = [] := hdf
    match i, hi with
    | 0, hi =>
      obtain rfl := Option.some.inj (oq0.symm.trans hi)
      have e2 : T[2]? = some (.int .i64 0) := hfree 2 (fr 2 (by kernel_rfl))
      refine grow_free rfl ?_
      clear hdep hfree hsz hops fr oq0 oq1 oq2 oq3 oq4 oq5 oq6 oq7 oq8 oq9 oq10 oq11 oq12 oq13 oq14 oq15 oq16 oq17 oq18 oq19 oq20 oq21 oq22 oq23 oq24 oq25 oq26
      refine step_growT fun K hK => ?_
      go_simp
      exact hK (.int .i64 0) _ (Below.refl _ _) (rfl)
    | 1, hi =>
      obtain rfl := Option.some.inj (oq1.symm.trans hi)
      have e113 : T[113]? = some (.int .i64 0) := slot_some (by omega) (hdep 0 _ 113 (odt (by kernel_rfl)) oq0 rfl)
      refine grow_free rfl ?_
      clear hdep hfree hsz hops fr oq0 oq1 oq2 oq3 oq4 oq5 oq6 oq7 oq8 oq9 oq10 oq11 oq12 oq13 oq14 oq15 oq16 oq17 oq18 oq19 oq20 oq21 oq22 oq23 oq24 oq25 oq26
      refine step_growT fun K hK => ?_
      go_simp
      exact hK (.bool false) _ (Below.refl _ _) (rfl)
    | 2, hi =>
      obtain rfl := Option.some.inj (oq2.symm.trans hi)
      have e114 : T[114]? = some (.bool false) := slot_some (by omega) (hdep 1 _ 114 (odt (by kernel_rfl)) oq1 rfl)
      refine grow_free rfl ?_
      clear hdep hfree hsz hops fr oq0 oq1 oq2 oq3 oq4 oq5 oq6 oq7 oq8 oq9 oq10 oq11 oq12 oq13 oq14 oq15 oq16 oq17 oq18 oq19 oq20 oq21 oq22 oq23 oq24 oq25 oq26
      refine step_growT fun K hK => ?_
      go_simp
      exact hK (.bool false) _ (Below.refl _ _) (rfl)
    | 3, hi =>
      obtain rfl := Option.some.inj (oq3.symm.trans hi)
      have e9 : T[9]? = some (.pointer (some ⟨w20.heap.size, 0, none⟩)) := hfree 9 (fr 9 (by kernel_rfl))
      refine grow_guard (T := T) (j := 2) rfl oq2 rfl (hdep 2 _ 115 (odt (by kernel_rfl)) oq2 rfl) (by omega) (fun hC e115 => ?_) (fun hC h => by first | exact absurd hC (by decide) | (rw [hC] at h; cases h))
      clear hdep hfree hsz hops fr oq0 oq1 oq2 oq3 oq4 oq5 oq6 oq7 oq8 oq9 oq10 oq11 oq12 oq13 oq14 oq15 oq16 oq17 oq18 oq19 oq20 oq21 oq22 oq23 oq24 oq25 oq26
      obtain ⟨c0, c1, c2⟩ := cells3 (RG.out.next hbw)
      refine step_growT fun K hK => ?_
      go_simp
      exact hK (.agg #[.bool (raw (quotQ 0 1)).neg, .slice Ga (raw (quotQ 0 1)).num.length ga, .slice Gb (raw (quotQ 0 1)).den.length gb]) _ (Below.refl _ _) (fun _ => IsR.stb.next GQ.out hbw)
    | 4, hi =>
      obtain rfl := Option.some.inj (oq4.symm.trans hi)
      refine grow_guard (T := T) (j := 2) rfl oq2 rfl (hdep 2 _ 115 (odt (by kernel_rfl)) oq2 rfl) (by omega) (fun hC e115 => ?_) (fun hC h => by first | exact absurd hC (by decide) | (rw [hC] at h; cases h))
      clear hdep hfree hsz hops fr oq0 oq1 oq2 oq3 oq4 oq5 oq6 oq7 oq8 oq9 oq10 oq11 oq12 oq13 oq14 oq15 oq16 oq17 oq18 oq19 oq20 oq21 oq22 oq23 oq24 oq25 oq26
      refine step_growT fun K hK => ?_
      go_simp
      refine (ratof_q (a := 0) (b := 1) (by omega) (by omega) (by omega)).mono ?_
      rintro e w' ⟨⟨v, rfl, hv⟩, hb⟩
      exact hK v w' hb (fun _ => IsQ.stb.old hv)
    | 5, hi =>
      obtain rfl := Option.some.inj (oq5.symm.trans hi)
      refine grow_guard (T := T) (j := 2) rfl oq2 rfl (hdep 2 _ 115 (odt (by kernel_rfl)) oq2 rfl) (by omega) (fun hC e115 => ?_) (fun hC h => by first | exact absurd hC (by decide) | (rw [hC] at h; cases h))
      have d116 : IsR W (Old W) (T.getD 116 undef) (raw (quotQ 0 1)) := hdep 3 _ 116 (odt (by kernel_rfl)) oq3 rfl hC
      obtain ⟨v116, e116, g116⟩ := slot_ex (T := T) (t := 116) (by omega)
      rw [g116] at d116
      clear g116
      have d117 : IsQ W (Old W) (T.getD 117 undef) (quotQ 0 1) := hdep 4 _ 117 (odt (by kernel_rfl)) oq4 rfl hC
      obtain ⟨v117, e117, g117⟩ := slot_ex (T := T) (t := 117) (by omega)
      rw [g117] at d117
      clear g117
      clear hdep hfree hsz hops fr oq0 oq1 oq2 oq3 oq4 oq5 oq6 oq7 oq8 oq9 oq10 oq11 oq12 oq13 oq14 oq15 oq16 oq17 oq18 oq19 oq20 oq21 oq22 oq23 oq24 oq25 oq26
      refine step_growT fun K hK => ?_
      go_simp
      refine (same_r d116 d117).mono ?_
      rw [decide_eq_true rfl]
      rintro e w' ⟨rfl, hb⟩
      exact hK _ w' hb (fun _ => rfl)
    | 6, hi =>
      obtain rfl := Option.some.inj (oq6.symm.trans hi)
      refine grow_guard (T := T) (j := 2) rfl oq2 rfl (hdep 2 _ 115 (odt (by kernel_rfl)) oq2 rfl) (by omega) (fun hC e115 => ?_) (fun hC h => by first | exact absurd hC (by decide) | (rw [hC] at h; cases h))
      have e118 : T[118]? = some (.bool true) := slot_some (by omega) (hdep 5 _ 118 (odt (by kernel_rfl)) oq5 rfl hC)
      clear hdep hfree hsz hops fr oq0 oq1 oq2 oq3 oq4 oq5 oq6 oq7 oq8 oq9 oq10 oq11 oq12 oq13 oq14 oq15 oq16 oq17 oq18 oq19 oq20 oq21 oq22 oq23 oq24 oq25 oq26
      refine step_growT fun K hK => ?_
      go_simp
      exact hK (.bool false) _ (Below.refl _ _) (fun _ => rfl)
    | 7, hi =>
      obtain rfl := Option.some.inj (oq7.symm.trans hi)
      have e115 : T[115]? = some (.bool false) := slot_some (by omega) (hdep 2 _ 115 (odt (by kernel_rfl)) oq2 rfl)
      have d119 : false = false → (T.getD 119 undef) = .bool false := hdep 6 _ 119 (odt (by kernel_rfl)) oq6 rfl
      refine grow_free rfl ?_
      obtain ⟨v119, e119, g119⟩ := slot_ex (T := T) (t := 119) (by omega)
      rw [g119] at d119
      clear g119
      have hC : false = false := rfl
      · have e := d119 hC
        subst e
        clear d119
        clear hdep hfree hsz hops fr oq0 oq1 oq2 oq3 oq4 oq5 oq6 oq7 oq8 oq9 oq10 oq11 oq12 oq13 oq14 oq15 oq16 oq17 oq18 oq19 oq20 oq21 oq22 oq23 oq24 oq25 oq26
        refine step_growT fun K hK => ?_
        go_simp
        exact hK (.bool false) _ (Below.refl _ _) rfl
    | 8, hi =>
      obtain rfl := Option.some.inj (oq8.symm.trans hi)
      have e120 : T[120]? = some (.bool false) := slot_some (by omega) (hdep 7 _ 120 (odt (by kernel_rfl)) oq7 rfl)
      refine grow_free rfl ?_
      clear hdep hfree hsz hops fr oq0 oq1 oq2 oq3 oq4 oq5 oq6 oq7 oq8 oq9 oq10 oq11 oq12 oq13 oq14 oq15 oq16 oq17 oq18 oq19 oq20 oq21 oq22 oq23 oq24 oq25 oq26
      refine step_growT fun K hK => ?_
      go_simp
      exact hK (.bool false) _ (Below.refl _ _) (rfl)
    | 9, hi =>
      obtain rfl := Option.some.inj (oq9.symm.trans hi)
      have e4 : T[4]? = some (.int .i64 13) := hfree 4 (fr 4 (by kernel_rfl))
      refine grow_guard (T := T) (j := 8) rfl oq8 rfl (hdep 8 _ 121 (odt (by kernel_rfl)) oq8 rfl) (by omega) (fun hC e121 => ?_) (fun hC h => by first | exact absurd hC (by decide) | (rw [hC] at h; cases h))
      clear hdep hfree hsz hops fr oq0 oq1 oq2 oq3 oq4 oq5 oq6 oq7 oq8 oq9 oq10 oq11 oq12 oq13 oq14 oq15 oq16 oq17 oq18 oq19 oq20 oq21 oq22 oq23 oq24 oq25 oq26
      refine step_growT fun K hK => ?_
      go_simp
      exact hK (.int .i64 13) _ (Below.refl _ _) (fun _ => rfl)
    | 10, hi =>
      obtain rfl := Option.some.inj (oq10.symm.trans hi)
      refine grow_guard (T := T) (j := 8) rfl oq8 rfl (hdep 8 _ 121 (odt (by kernel_rfl)) oq8 rfl) (by omega) (fun hC e121 => ?_) (fun hC h => by first | exact absurd hC (by decide) | (rw [hC] at h; cases h))
      have e122 : T[122]? = some (.int .i64 13) := slot_some (by omega) (hdep 9 _ 122 (odt (by kernel_rfl)) oq9 rfl hC)
      clear hdep hfree hsz hops fr oq0 oq1 oq2 oq3 oq4 oq5 oq6 oq7 oq8 oq9 oq10 oq11 oq12 oq13 oq14 oq15 oq16 oq17 oq18 oq19 oq20 oq21 oq22 oq23 oq24 oq25 oq26
      refine step_growT fun K hK => ?_
      go_simp
      exact hK (.bool false) _ (Below.refl _ _) (fun _ => rfl)
    | 11, hi =>
      obtain rfl := Option.some.inj (oq11.symm.trans hi)
      have e121 : T[121]? = some (.bool false) := slot_some (by omega) (hdep 8 _ 121 (odt (by kernel_rfl)) oq8 rfl)
      have d123 : false = false → (T.getD 123 undef) = .bool false := hdep 10 _ 123 (odt (by kernel_rfl)) oq10 rfl
      refine grow_free rfl ?_
      obtain ⟨v123, e123, g123⟩ := slot_ex (T := T) (t := 123) (by omega)
      rw [g123] at d123
      clear g123
      have hC : false = false := rfl
      · have e := d123 hC
        subst e
        clear d123
        clear hdep hfree hsz hops fr oq0 oq1 oq2 oq3 oq4 oq5 oq6 oq7 oq8 oq9 oq10 oq11 oq12 oq13 oq14 oq15 oq16 oq17 oq18 oq19 oq20 oq21 oq22 oq23 oq24 oq25 oq26
        refine step_growT fun K hK => ?_
        go_simp
        exact hK (.bool false) _ (Below.refl _ _) rfl
    | 12, hi =>
      obtain rfl := Option.some.inj (oq12.symm.trans hi)
      have e124 : T[124]? = some (.bool false) := slot_some (by omega) (hdep 11 _ 124 (odt (by kernel_rfl)) oq11 rfl)
      refine grow_free rfl ?_
      clear hdep hfree hsz hops fr oq0 oq1 oq2 oq3 oq4 oq5 oq6 oq7 oq8 oq9 oq10 oq11 oq12 oq13 oq14 oq15 oq16 oq17 oq18 oq19 oq20 oq21 oq22 oq23 oq24 oq25 oq26
      refine step_growT fun K hK => ?_
      go_simp
      exact hK (.bool false) _ (Below.refl _ _) (rfl)
    | 13, hi =>
      obtain rfl := Option.some.inj (oq13.symm.trans hi)
      have e10 : T[10]? = some (.bool true) := hfree 10 (fr 10 (by kernel_rfl))
      refine grow_guard (T := T) (j := 12) rfl oq12 rfl (hdep 12 _ 125 (odt (by kernel_rfl)) oq12 rfl) (by omega) (fun hC e125 => ?_) (fun hC h => by first | exact absurd hC (by decide) | (rw [hC] at h; cases h))
      clear hdep hfree hsz hops fr oq0 oq1 oq2 oq3 oq4 oq5 oq6 oq7 oq8 oq9 oq10 oq11 oq12 oq13 oq14 oq15 oq16 oq17 oq18 oq19 oq20 oq21 oq22 oq23 oq24 oq25 oq26
      refine step_growT fun K hK => ?_
      go_simp
      exact hK (.bool true) _ (Below.refl _ _) (fun _ => rfl)
    | 14, hi =>
      obtain rfl := Option.some.inj (oq14.symm.trans hi)
      refine grow_guard (T := T) (j := 12) rfl oq12 rfl (hdep 12 _ 125 (odt (by kernel_rfl)) oq12 rfl) (by omega) (fun hC e125 => ?_) (fun hC h => by first | exact absurd hC (by decide) | (rw [hC] at h; cases h))
      have e126 : T[126]? = some (.bool true) := slot_some (by omega) (hdep 13 _ 126 (odt (by kernel_rfl)) oq13 rfl hC)
      clear hdep hfree hsz hops fr oq0 oq1 oq2 oq3 oq4 oq5 oq6 oq7 oq8 oq9 oq10 oq11 oq12 oq13 oq14 oq15 oq16 oq17 oq18 oq19 oq20 oq21 oq22 oq23 oq24 oq25 oq26
      refine step_growT fun K hK => ?_
      go_simp
      exact hK (.bool false) _ (Below.refl _ _) (fun _ => rfl)
    | 15, hi =>
      obtain rfl := Option.some.inj (oq15.symm.trans hi)
      have e125 : T[125]? = some (.bool false) := slot_some (by omega) (hdep 12 _ 125 (odt (by kernel_rfl)) oq12 rfl)
      have d127 : false = false → (T.getD 127 undef) = .bool false := hdep 14 _ 127 (odt (by kernel_rfl)) oq14 rfl
      refine grow_free rfl ?_
      obtain ⟨v127, e127, g127⟩ := slot_ex (T := T) (t := 127) (by omega)
      rw [g127] at d127
      clear g127
      have hC : false = false := rfl
      · have e := d127 hC
        subst e
        clear d127
        clear hdep hfree hsz hops fr oq0 oq1 oq2 oq3 oq4 oq5 oq6 oq7 oq8 oq9 oq10 oq11 oq12 oq13 oq14 oq15 oq16 oq17 oq18 oq19 oq20 oq21 oq22 oq23 oq24 oq25 oq26
        refine step_growT fun K hK => ?_
        go_simp
        exact hK (.bool false) _ (Below.refl _ _) rfl
    | 16, hi =>
      obtain rfl := Option.some.inj (oq16.symm.trans hi)
      have e128 : T[128]? = some (.bool false) := slot_some (by omega) (hdep 15 _ 128 (odt (by kernel_rfl)) oq15 rfl)
      refine grow_free rfl ?_
      clear hdep hfree hsz hops fr oq0 oq1 oq2 oq3 oq4 oq5 oq6 oq7 oq8 oq9 oq10 oq11 oq12 oq13 oq14 oq15 oq16 oq17 oq18 oq19 oq20 oq21 oq22 oq23 oq24 oq25 oq26
      refine step_growT fun K hK => ?_
      go_simp
      exact hK (.bool false) _ (Below.refl _ _) (rfl)
    | 17, hi =>
      obtain rfl := Option.some.inj (oq17.symm.trans hi)
      have e6 : T[6]? = some (.int .i64 0) := hfree 6 (fr 6 (by kernel_rfl))
      refine grow_guard (T := T) (j := 16) rfl oq16 rfl (hdep 16 _ 129 (odt (by kernel_rfl)) oq16 rfl) (by omega) (fun hC e129 => ?_) (fun hC h => by first | exact absurd hC (by decide) | (rw [hC] at h; cases h))
      clear hdep hfree hsz hops fr oq0 oq1 oq2 oq3 oq4 oq5 oq6 oq7 oq8 oq9 oq10 oq11 oq12 oq13 oq14 oq15 oq16 oq17 oq18 oq19 oq20 oq21 oq22 oq23 oq24 oq25 oq26
      refine step_growT fun K hK => ?_
      go_simp
      exact hK (.int .i64 0) _ (Below.refl _ _) (fun _ => rfl)
    | 18, hi =>
      obtain rfl := Option.some.inj (oq18.symm.trans hi)
      refine grow_guard (T := T) (j := 16) rfl oq16 rfl (hdep 16 _ 129 (odt (by kernel_rfl)) oq16 rfl) (by omega) (fun hC e129 => ?_) (fun hC h => by first | exact absurd hC (by decide) | (rw [hC] at h; cases h))
      have e130 : T[130]? = some (.int .i64 0) := slot_some (by omega) (hdep 17 _ 130 (odt (by kernel_rfl)) oq17 rfl hC)
      clear hdep hfree hsz hops fr oq0 oq1 oq2 oq3 oq4 oq5 oq6 oq7 oq8 oq9 oq10 oq11 oq12 oq13 oq14 oq15 oq16 oq17 oq18 oq19 oq20 oq21 oq22 oq23 oq24 oq25 oq26
      refine step_growT fun K hK => ?_
      go_simp
      exact hK (.bool false) _ (Below.refl _ _) (fun _ => rfl)
    | 19, hi =>
      obtain rfl := Option.some.inj (oq19.symm.trans hi)
      have e129 : T[129]? = some (.bool false) := slot_some (by omega) (hdep 16 _ 129 (odt (by kernel_rfl)) oq16 rfl)
      have d131 : false = false → (T.getD 131 undef) = .bool false := hdep 18 _ 131 (odt (by kernel_rfl)) oq18 rfl
      refine grow_free rfl ?_
      obtain ⟨v131, e131, g131⟩ := slot_ex (T := T) (t := 131) (by omega)
      rw [g131] at d131
      clear g131
      have hC : false = false := rfl
      · have e := d131 hC
        subst e
        clear d131
        clear hdep hfree hsz hops fr oq0 oq1 oq2 oq3 oq4 oq5 oq6 oq7 oq8 oq9 oq10 oq11 oq12 oq13 oq14 oq15 oq16 oq17 oq18 oq19 oq20 oq21 oq22 oq23 oq24 oq25 oq26
        refine step_growT fun K hK => ?_
        go_simp
        exact hK (.bool false) _ (Below.refl _ _) rfl
    | 20, hi =>
      obtain rfl := Option.some.inj (oq20.symm.trans hi)
      have e132 : T[132]? = some (.bool false) := slot_some (by omega) (hdep 19 _ 132 (odt (by kernel_rfl)) oq19 rfl)
      refine grow_free rfl ?_
      clear hdep hfree hsz hops fr oq0 oq1 oq2 oq3 oq4 oq5 oq6 oq7 oq8 oq9 oq10 oq11 oq12 oq13 oq14 oq15 oq16 oq17 oq18 oq19 oq20 oq21 oq22 oq23 oq24 oq25 oq26
      refine step_growT fun K hK => ?_
      go_simp
      exact hK (.bool false) _ (Below.refl _ _) (rfl)
    | 21, hi =>
      obtain rfl := Option.some.inj (oq21.symm.trans hi)
      have e11 : T[11]? = some (.bool false) := hfree 11 (fr 11 (by kernel_rfl))
      refine grow_guard (T := T) (j := 20) rfl oq20 rfl (hdep 20 _ 133 (odt (by kernel_rfl)) oq20 rfl) (by omega) (fun hC e133 => ?_) (fun hC h => by first | exact absurd hC (by decide) | (rw [hC] at h; cases h))
      clear hdep hfree hsz hops fr oq0 oq1 oq2 oq3 oq4 oq5 oq6 oq7 oq8 oq9 oq10 oq11 oq12 oq13 oq14 oq15 oq16 oq17 oq18 oq19 oq20 oq21 oq22 oq23 oq24 oq25 oq26
      refine step_growT fun K hK => ?_
      go_simp
      exact hK (.bool false) _ (Below.refl _ _) (fun _ => rfl)
    | 22, hi =>
      obtain rfl := Option.some.inj (oq22.symm.trans hi)
      have e133 : T[133]? = some (.bool false) := slot_some (by omega) (hdep 20 _ 133 (odt (by kernel_rfl)) oq20 rfl)
      have d134 : false = false → (T.getD 134 undef) = .bool false := hdep 21 _ 134 (odt (by kernel_rfl)) oq21 rfl
      refine grow_free rfl ?_
      obtain ⟨v134, e134, g134⟩ := slot_ex (T := T) (t := 134) (by omega)
      rw [g134] at d134
      clear g134
      have hC : false = false := rfl
      · have e := d134 hC
        subst e
        clear d134
        clear hdep hfree hsz hops fr oq0 oq1 oq2 oq3 oq4 oq5 oq6 oq7 oq8 oq9 oq10 oq11 oq12 oq13 oq14 oq15 oq16 oq17 oq18 oq19 oq20 oq21 oq22 oq23 oq24 oq25 oq26
        refine step_growT fun K hK => ?_
        go_simp
        exact hK (.bool false) _ (Below.refl _ _) rfl
    | 23, hi =>
      obtain rfl := Option.some.inj (oq23.symm.trans hi)
      have e135 : T[135]? = some (.bool false) := slot_some (by omega) (hdep 22 _ 135 (odt (by kernel_rfl)) oq22 rfl)
      refine grow_free rfl ?_
      clear hdep hfree hsz hops fr oq0 oq1 oq2 oq3 oq4 oq5 oq6 oq7 oq8 oq9 oq10 oq11 oq12 oq13 oq14 oq15 oq16 oq17 oq18 oq19 oq20 oq21 oq22 oq23 oq24 oq25 oq26
      refine step_growT fun K hK => ?_
      go_simp
      exact hK (.bool false) _ (Below.refl _ _) (rfl)
    | 24, hi =>
      obtain rfl := Option.some.inj (oq24.symm.trans hi)
      have e8 : T[8]? = some (.int .i64 0) := hfree 8 (fr 8 (by kernel_rfl))
      refine grow_guard (T := T) (j := 23) rfl oq23 rfl (hdep 23 _ 136 (odt (by kernel_rfl)) oq23 rfl) (by omega) (fun hC e136 => ?_) (fun hC h => by first | exact absurd hC (by decide) | (rw [hC] at h; cases h))
      clear hdep hfree hsz hops fr oq0 oq1 oq2 oq3 oq4 oq5 oq6 oq7 oq8 oq9 oq10 oq11 oq12 oq13 oq14 oq15 oq16 oq17 oq18 oq19 oq20 oq21 oq22 oq23 oq24 oq25 oq26
      refine step_growT fun K hK => ?_
      go_simp
      exact hK (.int .i64 0) _ (Below.refl _ _) (fun _ => rfl)
    | 25, hi =>
      obtain rfl := Option.some.inj (oq25.symm.trans hi)
      refine grow_guard (T := T) (j := 23) rfl oq23 rfl (hdep 23 _ 136 (odt (by kernel_rfl)) oq23 rfl) (by omega) (fun hC e136 => ?_) (fun hC h => by first | exact absurd hC (by decide) | (rw [hC] at h; cases h))
      have e137 : T[137]? = some (.int .i64 0) := slot_some (by omega) (hdep 24 _ 137 (odt (by kernel_rfl)) oq24 rfl hC)
      clear hdep hfree hsz hops fr oq0 oq1 oq2 oq3 oq4 oq5 oq6 oq7 oq8 oq9 oq10 oq11 oq12 oq13 oq14 oq15 oq16 oq17 oq18 oq19 oq20 oq21 oq22 oq23 oq24 oq25 oq26
      refine step_growT fun K hK => ?_
      go_simp
      exact hK (.bool false) _ (Below.refl _ _) (fun _ => rfl)
    | 26, hi =>
      obtain rfl := Option.some.inj (oq26.symm.trans hi)
      have e136 : T[136]? = some (.bool false) := slot_some (by omega) (hdep 23 _ 136 (odt (by kernel_rfl)) oq23 rfl)
      have d138 : false = false → (T.getD 138 undef) = .bool false := hdep 25 _ 138 (odt (by kernel_rfl)) oq25 rfl
      refine grow_free rfl ?_
      obtain ⟨v138, e138, g138⟩ := slot_ex (T := T) (t := 138) (by omega)
      rw [g138] at d138
      clear g138
      have hC : false = false := rfl
      · have e := d138 hC
        subst e
        clear d138
        clear hdep hfree hsz hops fr oq0 oq1 oq2 oq3 oq4 oq5 oq6 oq7 oq8 oq9 oq10 oq11 oq12 oq13 oq14 oq15 oq16 oq17 oq18 oq19 oq20 oq21 oq22 oq23 oq24 oq25 oq26
        refine step_growT fun K hK => ?_
        go_simp
        exact hK (.bool false) _ (Below.refl _ _) rfl
    | _ + 27, hi => rw [hops] at hi; cases hi
  case fin =>
    intro a W hsz hdf hbw hfree hall
    obtain ⟨⟨l⟩, df⟩ := a
    replace hsz : l.length = 174 := hsz
    obtain ⟨fs, rfl⟩ := open174 hsz
    obtain rfl : df = [] := hdf
    have b0 : fs 0 = .bool false := Option.some.inj (hfree 0 (fr 0 (by kernel_rfl)))
    have b139 : fs 139 = .bool false := hall 26 _ 139 oq26 rfl
    clear hops fr oq0 oq1 oq2 oq3 oq4 oq5 oq6 oq7 oq8 oq9 oq10 oq11 oq12 oq13 oq14 oq15 oq16 oq17 oq18 oq19 oq20 oq21 oq22 oq23 oq24 oq25 oq26
    clear hall hfree hsz
    rw [b0, b139]
    clear b0 b139
    have BB := Lib.hid (below_step BB.out hbw)
    obtain ⟨w34, hW⟩ : ∃ x, x = W := ⟨_, rfl⟩
    rw [← hW] at BB ⊢
    clear hW hbw
    go_wp2_with fail
    refine (best_l _).mono ?_
    rintro e w35 ⟨⟨vw35, rfl, h⟩, hb⟩
    replace BB := Lib.hid (below_step BB.out hb)
    have S1 := Lib.hid h
    obtain ⟨P1, k1, Q1, l1, A1, a1, D1, d1, R1, r1, rfl, _⟩ := h
    clear hb
    go_wp2_with fail
    refine (best_l _).mono ?_
    rintro e w36 ⟨⟨vw36, rfl, h⟩, hb⟩
    replace BB := Lib.hid (below_step BB.out hb)
    replace S1 := Lib.hid (isSolN S1.out hb)
    have S2 := Lib.hid h
    obtain ⟨P2, k2, Q2, l2, A2, a2, D2, d2, R2, r2, rfl, _⟩ := h
    clear hb
    obtain ⟨wc, hwc, hbc, rc1, rc2, zc1, zc2⟩ := two_sols w36 (.int .i64 bestS.st) (.bool bestS.val.neg) (.slice P1 bestS.val.num.length k1) (.slice Q1 bestS.val.den.length l1) (.slice A1 bestS.X.length a1) (.slice D1 bestS.D.length d1) (.slice R1 bestS.R.length r1) (.int .i64 bestS.st) (.bool bestS.val.neg) (.slice P2 bestS.val.num.length k2) (.slice Q2 bestS.val.den.length l2) (.slice A2 bestS.X.length a2) (.slice D2 bestS.D.length d2) (.slice R2 bestS.R.length r2)
    obtain ⟨we, hwe, hbe, re1, re2, _⟩ := boxes2 w36 #[.int .i64 0, .bool false, .slice none 0 0, .slice none 0 0, .slice none 0 0, .slice none 0 0, .slice none 0 0] #[.int .i64 0, .bool false, .slice none 0 0, .slice none 0 0, .slice none 0 0, .slice none 0 0, .slice none 0 0] 57 57
    obtain ⟨x0, x1, x2, x3, x4, x5, x6⟩ := cells7 re1
    obtain ⟨y0, y1, y2, y3, y4, y5, y6⟩ := cells7 re2
    obtain ⟨fx0, fx1, fx2, fx3, fx4, fx5, fx6⟩ := free7 re1
    obtain ⟨fy0, fy1, fy2, fy3, fy4, fy5, fy6⟩ := free7 re2
    rw [hwe] at hwc
    have BC := Lib.hid hbc
    have RA := Lib.hid rc1
    have RB := Lib.hid rc2
    have zc := zc1
    clear hbc rc1 rc2 zc1 zc2
    go_wp2_with fail
    clear hwc hwe hbe re1 re2 x0 x1 x2 x3 x4 x5 x6 y0 y1 y2 y3 y4 y5 y6 fx0 fx1 fx2 fx3 fx4 fx5 fx6 fy0 fy1 fy2 fy3 fy4 fy5 fy6
    refine (ratof_q (a := 13) (b := 1) (by omega) (by omega) (by omega)).mono ?_
    rintro e wd ⟨⟨vd, rfl, hv⟩, hb⟩
    have hzd := hb.size
    have hzc := zc.out
    have BD := Lib.hid (BC.out.trans (hb.mono (by omega)))
    have VQ := Lib.hid hv
    obtain ⟨s3, P3, k3, O3, l3, rfl, hs3, _, _⟩ := isQ_open hv
    replace RA := Lib.hid (RA.out.next hb)
    replace RB := Lib.hid (RB.out.next hb)
    obtain ⟨x0, x1, x2, x3, x4, x5, x6⟩ := cells7 RA.out
    obtain ⟨y0, y1, y2, y3, y4, y5, y6⟩ := cells7 RB.out
    obtain ⟨fx0, fx1, fx2, fx3, fx4, fx5, fx6⟩ := free7 RA.out
    obtain ⟨fy0, fy1, fy2, fy3, fy4, fy5, fy6⟩ := free7 RB.out
    obtain ⟨wf, hwf, RF, RG, sF, bF⟩ := four_sets (n := w36.heap.size) (g' := w36.heap.size + 1) RA.out RB.out (by omega) (.bool s3) (.slice P3 (lim (quotQ 13 1).num.natAbs).length k3) (.slice O3 (lim (quotQ 13 1).den).length l3) (.int .i64 4)
    have BF := Lib.hid (BD.out.trans (bF w36.heap.size (Nat.le_refl _) (by omega)))
    have RA := Lib.hid RF
    have RB := Lib.hid RG
    have VF : Hid (IsQ wf (Old wf) (.agg #[.bool s3, .slice P3 (lim (quotQ 13 1).num.natAbs).length k3, .slice O3 (lim (quotQ 13 1).den).length l3]) (quotQ 13 1)) := IsQ.stb.to VQ.out (sF _ fun b h => ⟨by have := h.1; omega, by have := h.1; omega, h.2⟩)
    have HS1 := Lib.hid (isSolN S1.out BF.out)
    have HS2 := Lib.hid (isSolN S2.out BF.out)
    have HSO : Hid (IsSol wf (Old wf) (.agg #[.int .i64 bestS.st, .bool s3, .slice P3 (lim (quotQ 13 1).num.natAbs).length k3, .slice O3 (lim (quotQ 13 1).den).length l3, .slice A1 bestS.X.length a1, .slice D1 bestS.D.length d1, .slice R1 bestS.R.length r1]) otherS) := other_sol VF.out hs3.out HS1.out
    have HSN : Hid (IsSol wf (Old wf) (.agg #[.int .i64 4, .bool bestS.val.neg, .slice P2 bestS.val.num.length k2, .slice Q2 bestS.val.den.length l2, .slice A2 bestS.X.length a2, .slice D2 bestS.D.length d2, .slice R2 bestS.R.length r2]) noneS) := none_sol HS2.out
    have BB := Lib.hid (below_step BB.out BF.out)
    clear hb hv hzd hzc RF RG sF bF
    go_wp2_with fail
    clear hwf x0 x1 x2 x3 x4 x5 x6 y0 y1 y2 y3 y4 y5 y6 fx0 fx1 fx2 fx3 fx4 fx5 fx6 fy0 fy1 fy2 fy3 fy4 fy5 fy6
    refine region_abs fun ops hops => ?_
    have oq0 := op_at (j := 0) hops rfl
    have oq1 := op_at (j := 1) hops rfl
    have oq2 := op_at (j := 2) hops rfl
    have oq3 := op_at (j := 3) hops rfl
    have oq4 := op_at (j := 4) hops rfl
    have oq5 := op_at (j := 5) hops rfl
    have oq6 := op_at (j := 6) hops rfl
    have oq7 := op_at (j := 7) hops rfl
    have fr := fun t h => slot_abs hops t h
    refine wp_region_grow (Kn16 s3 P3 k3 O3 l3 A1 a1 D1 d1 R1 r1 P2 k2 Q2 l2 A2 a2 D2 d2 R2 r2) (by kernel_rfl) (kn16_stb s3 P3 k3 O3 l3 A1 a1 D1 d1 R1 r1 P2 k2 Q2 l2 A2 a2 D2 d2 R2 r2) (by rw [hops]; kernel_rfl) ?step ?fin
    case step =>
      intro i o hi a W hsz hdf hbw hfree hdep
      obtain ⟨T, df⟩ := a
      replace hsz : T.size = 174 := hsz
      obtain rfl : df = [] := hdf
      match i, hi with
      | 0, hi =>
        obtain rfl := Option.some.inj (oq0.symm.trans hi)
        refine grow_free rfl ?_
        clear hdep hfree hsz hops fr oq0 oq1 oq2 oq3 oq4 oq5 oq6 oq7
        refine step_growT fun K hK => ?_
        go_simp
        refine (example_l _).mono ?_
        rintro e w' ⟨⟨v, rfl, hv⟩, hb⟩
        exact hK v w' hb hv
      | 1, hi =>
        obtain rfl := Option.some.inj (oq1.symm.trans hi)
        have e12 : T[12]? = some (.pointer (some ⟨w36.heap.size, 0, none⟩)) := hfree 12 (fr 12 (by kernel_rfl))
        refine grow_free rfl ?_
        clear hdep hfree hsz hops fr oq0 oq1 oq2 oq3 oq4 oq5 oq6 oq7
        obtain ⟨x0, x1, x2, x3, x4, x5, x6⟩ := cells7 (RA.out.next hbw)
        refine step_growT fun K hK => ?_
        go_simp
        exact hK (.agg #[.int .i64 bestS.st, .bool s3, .slice P3 (lim (quotQ 13 1).num.natAbs).length k3, .slice O3 (lim (quotQ 13 1).den).length l3, .slice A1 bestS.X.length a1, .slice D1 bestS.D.length d1, .slice R1 bestS.R.length r1]) _ (Below.refl _ _) (rfl)
      | 2, hi =>
        obtain rfl := Option.some.inj (oq2.symm.trans hi)
        have d146 : IsP W (Old W) (T.getD 146 undef) (rawP exQ) := hdep 0 _ 146 (odt (by kernel_rfl)) oq0 rfl
        obtain ⟨v146, e146, g146⟩ := slot_ex (T := T) (t := 146) (by omega)
        rw [g146] at d146
        clear g146
        have e147 : T[147]? = some (.agg #[.int .i64 bestS.st, .bool s3, .slice P3 (lim (quotQ 13 1).num.natAbs).length k3, .slice O3 (lim (quotQ 13 1).den).length l3, .slice A1 bestS.X.length a1, .slice D1 bestS.D.length d1, .slice R1 bestS.R.length r1]) := slot_some (by omega) (hdep 1 _ 147 (odt (by kernel_rfl)) oq1 rfl)
        refine grow_free rfl ?_
        clear hdep hfree hsz hops fr oq0 oq1 oq2 oq3 oq4 oq5 oq6 oq7
        refine step_growT fun K hK => ?_
        go_simp
        refine (accepts_1 (b := false) d146 (isSolN HSO.out hbw) (Bru.next HB.out (below_step BB.out hbw)) (chkP_raw good_ex) rfl (fun v hv W' hW => by
            have h := optProves_l (b2 := true) (b3 := false) (IsPS.to hv (same_old hW)) (Bru.next HB.out (below_step (below_step BB.out hbw) hW)) (fun _ => ⟨_, _, _, _, other_opt, ex_other.1.symm, ex_other.2.symm⟩)
            rw [other_proper] at h
            exact h)).mono ?_
        rintro e w' ⟨rfl, hb⟩
        exact hK _ w' hb rfl
      | 3, hi =>
        obtain rfl := Option.some.inj (oq3.symm.trans hi)
        have e148 : T[148]? = some (.tuple #[.bool false, .int .i64 0]) := slot_some (by omega) (hdep 2 _ 148 (odt (by kernel_rfl)) oq2 rfl)
        refine grow_free rfl ?_
        clear hdep hfree hsz hops fr oq0 oq1 oq2 oq3 oq4 oq5 oq6 oq7
        refine step_growT fun K hK => ?_
        go_simp
        exact hK (.tuple #[.bool false, .int .i64 0]) _ (Below.refl _ _) (rfl)
      | 4, hi =>
        obtain rfl := Option.some.inj (oq4.symm.trans hi)
        have e145 : T[145]? = some (.tuple #[.bool false, .int .i64 0]) := slot_some (by omega) (hdep 3 _ 145 (odt (by kernel_rfl)) oq3 rfl)
        refine grow_free rfl ?_
        clear hdep hfree hsz hops fr oq0 oq1 oq2 oq3 oq4 oq5 oq6 oq7
        refine step_growT fun K hK => ?_
        go_simp
        exact hK (.bool false) _ (Below.refl _ _) (rfl)
      | 5, hi =>
        obtain rfl := Option.some.inj (oq5.symm.trans hi)
        have e145 : T[145]? = some (.tuple #[.bool false, .int .i64 0]) := slot_some (by omega) (hdep 3 _ 145 (odt (by kernel_rfl)) oq3 rfl)
        refine grow_free rfl ?_
        clear hdep hfree hsz hops fr oq0 oq1 oq2 oq3 oq4 oq5 oq6 oq7
        refine step_growT fun K hK => ?_
        go_simp
        exact hK (.int .i64 0) _ (Below.refl _ _) (rfl)
      | 6, hi =>
        obtain rfl := Option.some.inj (oq6.symm.trans hi)
        have e149 : T[149]? = some (.bool false) := slot_some (by omega) (hdep 4 _ 149 (odt (by kernel_rfl)) oq4 rfl)
        refine grow_free rfl ?_
        clear hdep hfree hsz hops fr oq0 oq1 oq2 oq3 oq4 oq5 oq6 oq7
        refine step_growT fun K hK => ?_
        go_simp
        exact hK (.bool false) _ (Below.refl _ _) (rfl)
      | 7, hi =>
        obtain rfl := Option.some.inj (oq7.symm.trans hi)
        have e150 : T[150]? = some (.int .i64 0) := slot_some (by omega) (hdep 5 _ 150 (odt (by kernel_rfl)) oq5 rfl)
        refine grow_free rfl ?_
        clear hdep hfree hsz hops fr oq0 oq1 oq2 oq3 oq4 oq5 oq6 oq7
        refine step_growT fun K hK => ?_
        go_simp
        exact hK (.int .i64 0) _ (Below.refl _ _) (rfl)
      | _ + 8, hi => rw [hops] at hi; cases hi
    case fin =>
      intro a W hsz hdf hbw hfree hall
      obtain ⟨⟨l⟩, df⟩ := a
      replace hsz : l.length = 174 := hsz
      obtain ⟨fs, rfl⟩ := open174 hsz
      obtain rfl : df = [] := hdf
      have b0 : fs 0 = .bool false := Option.some.inj (hfree 0 (fr 0 (by kernel_rfl)))
      have b12 : fs 12 = .pointer (some ⟨w36.heap.size, 0, none⟩) := Option.some.inj (hfree 12 (fr 12 (by kernel_rfl)))
      have b13 : fs 13 = .pointer (some ⟨w36.heap.size + 1, 0, none⟩) := Option.some.inj (hfree 13 (fr 13 (by kernel_rfl)))
      have b1 : fs 1 = .bool false := hall 6 _ 1 oq6 rfl
      have b2 : fs 2 = .int .i64 0 := hall 7 _ 2 oq7 rfl
      clear hops fr oq0 oq1 oq2 oq3 oq4 oq5 oq6 oq7
      clear hall hfree hsz
      rw [b0, b12, b13, b1, b2]
      clear b0 b12 b13 b1 b2
      obtain ⟨wg, hwg⟩ : ∃ x, x = W := ⟨_, rfl⟩
      replace HSN := Lib.hid (isSolN HSN.out hbw)
      replace BB := Lib.hid (below_step BB.out hbw)
      replace RB := Lib.hid (RB.out.next hbw)
      rw [← hwg] at HSN BB RB ⊢
      clear hwg hbw HSO RA HS1 HS2 VF VQ
      go_wp2_with fail
      refine region_abs fun ops hops => ?_
      have oq0 := op_at (j := 0) hops rfl
      have oq1 := op_at (j := 1) hops rfl
      have oq2 := op_at (j := 2) hops rfl
      have oq3 := op_at (j := 3) hops rfl
      have oq4 := op_at (j := 4) hops rfl
      have oq5 := op_at (j := 5) hops rfl
      have oq6 := op_at (j := 6) hops rfl
      have oq7 := op_at (j := 7) hops rfl
      have fr := fun t h => slot_abs hops t h
      refine wp_region_grow (Kn17 s3 P3 k3 O3 l3 A1 a1 D1 d1 R1 r1 P2 k2 Q2 l2 A2 a2 D2 d2 R2 r2) (by kernel_rfl) (kn17_stb s3 P3 k3 O3 l3 A1 a1 D1 d1 R1 r1 P2 k2 Q2 l2 A2 a2 D2 d2 R2 r2) (by rw [hops]; kernel_rfl) ?step ?fin
      case step =>
        intro i o hi a W hsz hdf hbw hfree hdep
        obtain ⟨T, df⟩ := a
        replace hsz : T.size = 174 := hsz
        obtain rfl : df = [] := hdf
        match i, hi with
        | 0, hi =>
          obtain rfl := Option.some.inj (oq0.symm.trans hi)
          refine grow_free rfl ?_
          clear hdep hfree hsz hops fr oq0 oq1 oq2 oq3 oq4 oq5 oq6 oq7
          refine step_growT fun K hK => ?_
          go_simp
          refine (example_l _).mono ?_
          rintro e w' ⟨⟨v, rfl, hv⟩, hb⟩
          exact hK v w' hb hv
        | 1, hi =>
          obtain rfl := Option.some.inj (oq1.symm.trans hi)
          have e13 : T[13]? = some (.pointer (some ⟨w36.heap.size + 1, 0, none⟩)) := hfree 13 (fr 13 (by kernel_rfl))
          refine grow_free rfl ?_
          clear hdep hfree hsz hops fr oq0 oq1 oq2 oq3 oq4 oq5 oq6 oq7
          obtain ⟨x0, x1, x2, x3, x4, x5, x6⟩ := cells7 (RB.out.next hbw)
          refine step_growT fun K hK => ?_
          go_simp
          exact hK (.agg #[.int .i64 4, .bool bestS.val.neg, .slice P2 bestS.val.num.length k2, .slice Q2 bestS.val.den.length l2, .slice A2 bestS.X.length a2, .slice D2 bestS.D.length d2, .slice R2 bestS.R.length r2]) _ (Below.refl _ _) (rfl)
        | 2, hi =>
          obtain rfl := Option.some.inj (oq2.symm.trans hi)
          have d152 : IsP W (Old W) (T.getD 152 undef) (rawP exQ) := hdep 0 _ 152 (odt (by kernel_rfl)) oq0 rfl
          obtain ⟨v152, e152, g152⟩ := slot_ex (T := T) (t := 152) (by omega)
          rw [g152] at d152
          clear g152
          have e153 : T[153]? = some (.agg #[.int .i64 4, .bool bestS.val.neg, .slice P2 bestS.val.num.length k2, .slice Q2 bestS.val.den.length l2, .slice A2 bestS.X.length a2, .slice D2 bestS.D.length d2, .slice R2 bestS.R.length r2]) := slot_some (by omega) (hdep 1 _ 153 (odt (by kernel_rfl)) oq1 rfl)
          refine grow_free rfl ?_
          clear hdep hfree hsz hops fr oq0 oq1 oq2 oq3 oq4 oq5 oq6 oq7
          refine step_growT fun K hK => ?_
          go_simp
          refine (accepts_none d152 (isSolN HSN.out hbw) (Bru.next HB.out (below_step BB.out hbw)) (chkP_raw good_ex) ⟨by decide, by decide, by decide⟩ (by decide)).mono ?_
          rintro e w' ⟨rfl, hb⟩
          exact hK _ w' hb rfl
        | 3, hi =>
          obtain rfl := Option.some.inj (oq3.symm.trans hi)
          have e154 : T[154]? = some (.tuple #[.bool false, .int .i64 0]) := slot_some (by omega) (hdep 2 _ 154 (odt (by kernel_rfl)) oq2 rfl)
          refine grow_free rfl ?_
          clear hdep hfree hsz hops fr oq0 oq1 oq2 oq3 oq4 oq5 oq6 oq7
          refine step_growT fun K hK => ?_
          go_simp
          exact hK (.tuple #[.bool false, .int .i64 0]) _ (Below.refl _ _) (rfl)
        | 4, hi =>
          obtain rfl := Option.some.inj (oq4.symm.trans hi)
          have e151 : T[151]? = some (.tuple #[.bool false, .int .i64 0]) := slot_some (by omega) (hdep 3 _ 151 (odt (by kernel_rfl)) oq3 rfl)
          refine grow_free rfl ?_
          clear hdep hfree hsz hops fr oq0 oq1 oq2 oq3 oq4 oq5 oq6 oq7
          refine step_growT fun K hK => ?_
          go_simp
          exact hK (.bool false) _ (Below.refl _ _) (rfl)
        | 5, hi =>
          obtain rfl := Option.some.inj (oq5.symm.trans hi)
          have e151 : T[151]? = some (.tuple #[.bool false, .int .i64 0]) := slot_some (by omega) (hdep 3 _ 151 (odt (by kernel_rfl)) oq3 rfl)
          refine grow_free rfl ?_
          clear hdep hfree hsz hops fr oq0 oq1 oq2 oq3 oq4 oq5 oq6 oq7
          refine step_growT fun K hK => ?_
          go_simp
          exact hK (.int .i64 0) _ (Below.refl _ _) (rfl)
        | 6, hi =>
          obtain rfl := Option.some.inj (oq6.symm.trans hi)
          have e155 : T[155]? = some (.bool false) := slot_some (by omega) (hdep 4 _ 155 (odt (by kernel_rfl)) oq4 rfl)
          refine grow_free rfl ?_
          clear hdep hfree hsz hops fr oq0 oq1 oq2 oq3 oq4 oq5 oq6 oq7
          refine step_growT fun K hK => ?_
          go_simp
          exact hK (.bool false) _ (Below.refl _ _) (rfl)
        | 7, hi =>
          obtain rfl := Option.some.inj (oq7.symm.trans hi)
          have e156 : T[156]? = some (.int .i64 0) := slot_some (by omega) (hdep 5 _ 156 (odt (by kernel_rfl)) oq5 rfl)
          refine grow_free rfl ?_
          clear hdep hfree hsz hops fr oq0 oq1 oq2 oq3 oq4 oq5 oq6 oq7
          refine step_growT fun K hK => ?_
          go_simp
          exact hK (.int .i64 0) _ (Below.refl _ _) (rfl)
        | _ + 8, hi => rw [hops] at hi; cases hi
      case fin =>
        intro a W hsz hdf hbw hfree hall
        obtain ⟨⟨l⟩, df⟩ := a
        replace hsz : l.length = 174 := hsz
        obtain ⟨fs, rfl⟩ := open174 hsz
        obtain rfl : df = [] := hdf
        have b0 : fs 0 = .bool false := Option.some.inj (hfree 0 (fr 0 (by kernel_rfl)))
        have b1 : fs 1 = .bool false := Option.some.inj (hfree 1 (fr 1 (by kernel_rfl)))
        have b2 : fs 2 = .int .i64 0 := Option.some.inj (hfree 2 (fr 2 (by kernel_rfl)))
        have b3 : fs 3 = .bool false := hall 6 _ 3 oq6 rfl
        have b4 : fs 4 = .int .i64 0 := hall 7 _ 4 oq7 rfl
        clear hops fr oq0 oq1 oq2 oq3 oq4 oq5 oq6 oq7
        clear hall hfree hsz
        rw [b0, b1, b2, b3, b4]
        clear b0 b1 b2 b3 b4
        go_wp2_with fail
        refine (awake5_l (Bru.next HB.out (below_step BB.out hbw))).mono ?_
        rintro e wz ⟨rfl, hb⟩
        go_wp2_with fail
        go_ret
        exact ⟨rfl, below_step (below_step BB.out hbw) hb⟩
end Go.Proofs.YtblpaocignlpkaaDoor
