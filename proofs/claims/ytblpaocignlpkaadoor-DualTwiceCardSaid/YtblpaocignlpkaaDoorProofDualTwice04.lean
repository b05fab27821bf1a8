/-
  The walk of the law DualTwice.
-/
import Derived.Test.YtblpaocignlpkaaDoorProofDualTwice03
import Derived.Test.YtblpaocignlpkaaDoorBase17
import Derived.Test.YtblpaocignlpkaaDoorBase13
namespace Go.Proofs.YtblpaocignlpkaaDoor
open Go.RowKit
set_option linter.unusedVariables false

theorem program_i {w : World} {g : Nat} {l : List Int} (hD : IsD w g l) {a b : Int} (ha : 0 ≤ a ∧ a ≤ 40) (hb : 0 ≤ b ∧ b ≤ 40) :
    Calls Tryd.prog 8 #[.pointer (some ⟨g, 0, none⟩), .int .i64 a, .int .i64 b] w fun e w' => ProgOut a.toNat b.toNat w.heap.size e w' ∧ IsD w' g l ∧ w.grownBy w' (some g) := by
  have e1 : a = ((a.toNat : Nat) : Int) := by omega
  have e2 : b = ((b.toNat : Nat) : Int) := by omega
  have h := program_l hD (n := a.toNat) (m0 := b.toNat) (by omega) (by omega)
  rw [← e1, ← e2] at h
  exact h
theorem good_more {p : ProgQ} {j k : Nat} (h : Good p j) (hjk : j ≤ k) : Good p k :=
  ⟨h.rows, h.cols, fun r hr q hq => (h.szA r hr q hq).le hjk, fun q hq => (h.szB q hq).le hjk, fun q hq => (h.szC q hq).le hjk, h.nB, h.nC⟩

set_option maxRecDepth 100000 in
set_option maxHeartbeats 4000000 in
theorem law_twice {w : World} {vl : Value} {l : List Int} {n m : Int} (hl : IsIL w (Old w) vl l) (hn : In64 n) (hm : In64 m) (hB : Bru w) :
    Calls Tryd.prog 3 #[vl, .int .i64 n, .int .i64 m] w fun e w' => e = .returned (.bool true) ∧ Below w.heap.size w w' := by
  have HL := Lib.hid hl
  have HB := Lib.hid hB
  obtain ⟨A, c, rfl, _, _, _, _⟩ := hl
  obtain ⟨w0, hw0, hb0, rD, Hz⟩ := boxes1 w #[.slice A l.length c, .int .i64 0] 25
  have D0 : Hid (IsD w0 w.heap.size l) := ⟨A, c, 0, rD, IsIL.stb.to HL.out (same_below hb0 fun b h => h), Nat.zero_le _⟩
  have B0 := Lib.hid hb0
  obtain ⟨x, hx⟩ : ∃ x : Int, n % 4 = x := ⟨_, rfl⟩
  obtain ⟨y, hy⟩ : ∃ y : Int, m % 4 = y := ⟨_, rfl⟩
  have hx0 : 0 ≤ x := by omega
  have hx1 : x ≤ 3 := by omega
  have hy0 : 0 ≤ y := by omega
  have hy1 : y ≤ 3 := by omega
  have Hx := Lib.hid hx
  have Hy := Lib.hid hy
  have Hn := Lib.hid hn
  have Hm := Lib.hid hm
  have Hlt : Hid (w.heap.size < w0.heap.size) := by rw [Hid]; have := Hz.out; omega
  clear hb0 rD hB hx hy hn hm
  go_enter Tryd.func3, Tryd.ntmps3
  go_wp2_with fail
  clear hw0
  refine (mod_n _ n 4 Hn.out.1 Hn.out.2 (by omega) (by omega)).mono ?_
  rw [Hx.out]
  rintro e w1 ⟨rfl, rfl⟩
  go_wp2_with fail
  refine (mod_n _ m 4 Hm.out.1 Hm.out.2 (by omega) (by omega)).mono ?_
  rw [Hy.out]
  rintro e w1 ⟨rfl, rfl⟩
  go_wp2_with fail
  refine (program_i D0.out (a := 1 + x) (b := 1 + y) (by omega) (by omega)).mono ?_
  rintro e w1 ⟨⟨v1, q, rfl, hq, hg, hq1, hq2⟩, hD1, hG1⟩
  have B1 := Lib.hid (B0.out.grown hG1 (Nat.le_of_lt Hlt.out) (fun k hk => by cases hk; exact Nat.le_refl _))
  have HG := Lib.hid (good_more hg (show 3 ≤ 1024 by omega))
  have V1 := Lib.hid (IsP.stb.to hq (same_imp (T := Old w1) fun b h => h.2))
  obtain ⟨pA, lA, hA⟩ : ∃ p, p = rawP q ∧ True := ⟨_, rfl, trivial⟩
  have EP := Lib.hid lA
  rw [← lA] at V1
  clear hq hg hq1 hq2 hD1 hG1 lA hA D0 B0 Hlt Hz hx0 hx1 hy0 hy1
  obtain ⟨P1, k1, Q1, l1, R1, m1, rfl, _⟩ := id V1.out
  obtain ⟨w2, hw2, hb, r2, _⟩ := boxes1 w1 #[.slice P1 pA.A.length k1, .slice Q1 pA.B.length l1, .slice R1 pA.C.length m1] 31
  have B2 := Lib.hid (below_step B1.out hb)
  have V2 := Lib.hid (IsP.stb.to V1.out (same_old hb))
  obtain ⟨t0, t1, t2⟩ := cells3 r2
  clear hb r2 V1 B1
  go_wp2_with fail
  clear hw2
  refine (of_good (q := q) (by rw [← EP.out]; exact V2.out) (Bru.next HB.out B2.out) HG.out).mono ?_
  rintro e w3 ⟨⟨v3, rfl, hv⟩, hb⟩
  have B3 := Lib.hid (below_step B2.out hb)
  have V3 := Lib.hid (IsP.stb.to V2.out (same_old hb))
  replace t0 := keep_cell hb t0
  replace t1 := keep_cell hb t1
  replace t2 := keep_cell hb t2
  have U3 := Lib.hid hv
  obtain ⟨pB, hpB⟩ : ∃ p, p = rawP (dualQ q) := ⟨_, rfl⟩
  have EB := Lib.hid hpB
  rw [← hpB] at U3
  clear hb hv hpB V2 B2
  obtain ⟨P3, k3, Q3, l3, R3, m3, rfl, _⟩ := id U3.out
  obtain ⟨w4, hw4, hb, r4, _⟩ := boxes1 w3 #[.slice P3 pB.A.length k3, .slice Q3 pB.B.length l3, .slice R3 pB.C.length m3] 31
  have B4 := Lib.hid (below_step B3.out hb)
  have V4 := Lib.hid (IsP.stb.to V3.out (same_old hb))
  have U4 := Lib.hid (IsP.stb.to U3.out (same_old hb))
  replace t0 := keep_cell hb t0
  replace t1 := keep_cell hb t1
  replace t2 := keep_cell hb t2
  obtain ⟨u0, u1, u2⟩ := cells3 r4
  clear hb r4 V3 U3 B3
  go_wp2_with fail
  clear hw4
  refine (of_good (q := dualQ q) (by rw [← EB.out]; exact U4.out) (Bru.next HB.out B4.out) (good_dual HG.out)).mono ?_
  rw [dual_twice HG.out, ← EP.out]
  rintro e w5 ⟨⟨v5, rfl, hv⟩, hb⟩
  have B5 := Lib.hid (below_step B4.out hb)
  have V5 := Lib.hid (IsP.stb.to V4.out (same_old hb))
  replace t0 := keep_cell hb t0
  replace t1 := keep_cell hb t1
  replace t2 := keep_cell hb t2
  have U5 := Lib.hid hv
  clear hb hv V4 U4 B4 u0 u1 u2
  obtain ⟨P5, k5, Q5, l5, R5, m5, rfl, _⟩ := id U5.out
  obtain ⟨w6, hw6, hb, r6, _⟩ := boxes1 w5 #[.slice P5 pA.A.length k5, .slice Q5 pA.B.length l5, .slice R5 pA.C.length m5] 31
  have B6 := Lib.hid (below_step B5.out hb)
  have V6 := Lib.hid (IsP.stb.to V5.out (same_old hb))
  have U6 := Lib.hid (IsP.stb.to U5.out (same_old hb))
  replace t0 := keep_cell hb t0
  replace t1 := keep_cell hb t1
  replace t2 := keep_cell hb t2
  obtain ⟨u0, u1, u2⟩ := cells3 r6
  clear hb r6 V5 U5 B5
  go_wp2_with fail
  clear hw6
  refine (same_p U6.out V6.out).mono ?_
  rw [decide_eq_true rfl]
  rintro e w7 ⟨rfl, hb⟩
  have B7 := Lib.hid (below_step B6.out hb)
  clear hb B6 t0 t1 t2 u0 u1 u2 V6 U6
  go_wp2_with fail
  refine (awake5_l (Bru.next HB.out B7.out)).mono ?_
  rintro e wz ⟨rfl, hb⟩
  go_wp2_with fail
  go_ret
  exact ⟨rfl, below_step B7.out hb⟩
theorem law_twiceE {w : World} {vl : Value} {l : List Int} (hl : IsIL w (Old w) vl l) (n : Int) (hn : (Lit.int .i64 n).wf = true) (m : Int) (hm : (Lit.int .i64 m).wf = true) (hB : Bru w) :
    Calls Tryd.prog 3 #[vl, .int .i64 n, .int .i64 m] w fun e w' => e = .returned (.bool true) ∧ Below w.heap.size w w' := law_twice hl (in64_of hn) (in64_of hm) hB
end Go.Proofs.YtblpaocignlpkaaDoor
