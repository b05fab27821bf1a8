/-
  The contract of the reference's Form.
-/
import Derived.Test.YtblpaocignlpkaaGreatDoorProofDualCalls03
import Derived.Test.YtblpaocignlpkaaGreatDoorBase07
import Derived.Test.YtblpaocignlpkaaGreatDoorBase12
import Derived.Test.YtblpaocignlpkaaGreatDoorBase11
import Derived.Test.YtblpaocignlpkaaGreatDoorBase03
namespace Go.Proofs.YtblpaocignlpkaaGreatDoor
open Go.RowKit
set_option linter.unusedVariables false

/-- The error of a row, n the length that it should have. -/
def rchkRow (n : Nat) (row : List Raw) : Int := if row.length ≠ n then 3 else chkV row
theorem rchkM_eq (m : List (List Raw)) : chkM m = if 40 < m.length then 4 else fstE (m.map (rchkRow (m.headD []).length)) := rfl
theorem rgetD_mapM {m : List (List Raw)} {n j : Nat} {r : List Raw} (h : m[j]? = some r) : (m.map (rchkRow n)).getD j 0 = rchkRow n r := by
  rw [List.getD_eq_getElem?_getD, List.getElem?_map, h]; rfl

set_option maxRecDepth 100000 in
set_option maxHeartbeats 1000000 in
theorem rform_l {w : World} {v : Value} {m : List (List Raw)} (h : IsM w (Old w) v m) :
    Calls Tryz.prog 109 #[v] w fun e w' => e = .returned (.int .i64 (chkM m)) ∧ Below w.heap.size w w' := by
  have H := Lib.hid h
  obtain ⟨A, c, rfl, hl⟩ := isM_len h
  clear h
  by_cases h40 : 40 < m.length
  · have Hr : Hid (chkM m = 4) := by unfold Hid chkM; rw [if_pos h40]
    go_enter Tryz.func109, Tryz.ntmps109
    go_wp2_with fail
    go_ret
    exact ⟨ret_int Hr.out.symm, Below.refl _ _⟩
  · have h40' : m.length ≤ 40 := by omega
    obtain ⟨n, hn⟩ : ∃ n, n = (m.headD []).length := ⟨_, rfl⟩
    have Hr : Hid (chkM m = fstE (m.map (rchkRow n))) := by rw [Hid, rchkM_eq, if_neg h40, hn]
    have Hn := Lib.hid hn
    clear h40 hn
    go_enter Tryz.func109, Tryz.ntmps109
    go_wp2_with fail
    go_loopw [3] (fun i wr => ∃ k : Nat, k ≤ m.length ∧ i = .int .i64 (k : Int) ∧ Below w.heap.size w wr ∧ Hid (∀ j, j < k → (m.map (rchkRow n)).getD j 0 = 0)) (fun i _ => m.length - (intOf i).toNat)
    case atStart => exact ⟨0, Nat.zero_le _, rfl, Below.refl _ _, fun j hj => by omega⟩
    case round =>
      obtain ⟨k, hk, rfl, hbw, hrel⟩ := hrel
      have Hbw := Lib.hid hbw
      have Hrel := Lib.hid hrel.out
      clear hrel
      rcases Nat.lt_or_ge k m.length with hlt | hge
      · obtain ⟨row, hrow⟩ := rsome_at hlt
        obtain ⟨row0, hrow0⟩ := rsome_at (show 0 < m.length by omega)
        obtain ⟨b, off, P, kP, rfl, hSb, hel, c0⟩ := isM_get (IsM.stb.next H.out hbw) hrow
        obtain ⟨b0, off0, P0, kP0, hA0, hSb0, hel0, c1⟩ := isM_get (IsM.stb.next H.out hbw) hrow0
        simp only [Option.some.injEq, Addr.mk.injEq, and_true] at hA0
        obtain ⟨rfl, rfl⟩ := hA0
        rw [Nat.add_zero] at c1
        have hn0 : Hid (row0.length = n) := by
          rw [Hid, Hn.out]
          cases m with
          | nil => simp at hlt
          | cons a t => simp at hrow0; rw [← hrow0]; rfl
        have Hrow := Lib.hid hel
        have Hrr := Lib.hid hrow
        have hpos : 0 < m.length := by omega
        clear hel hrow hbw hel0 hrow0
        by_cases hlen : row.length = row0.length
        case neg =>
          have e1 : ((row.length : Int) != (row0.length : Int)) = true := bne_iff_ne.2 (by omega)
          have Hfin : Hid (chkM m = 3) := by
            rw [Hid, Hr.out]
            refine fstE_at Hrel.out (by rw [List.getElem?_map, Hrr.out]; rfl) ?_ |>.trans ?_
            · unfold rchkRow; rw [if_pos (by rw [← hn0.out]; exact hlen)]; decide
            · unfold rchkRow; rw [if_pos (by rw [← hn0.out]; exact hlen)]
          clear hlen
          go_wp2_with fail
          go_quiet (fail)
          go_wp2_with fail
          go_ret
          exact ⟨ret_int Hfin.out.symm, below_drewN Hbw.out _⟩
        have e1 : ((row.length : Int) != (row0.length : Int)) = false := by rw [hlen]; simp
        have Hlen := Lib.hid hlen
        clear hlen
        obtain ⟨x, hx⟩ : ∃ x, x = chkV row := ⟨_, rfl⟩
        have Hx := Lib.hid hx
        have Hxr : Hid (rchkRow n row = x) := by rw [Hid, hx]; unfold rchkRow; rw [if_neg (by rw [← hn0.out]; simp [Hlen.out])]
        clear hx
        by_cases hx0 : x = 0
        · have e0 : (x != 0) = false := by rw [hx0]; rfl
          have Hx0 := Lib.hid hx0
          clear hx0
          go_wp2_with fail
          go_quiet (fail)
          go_wp2_with fail
          refine (rvcheck_l (IsV.stb.next Hrow.out (below_drewN (Below.refl _ _) _))).mono ?_
          rw [← Hx.out]
          rintro e w1 ⟨rfl, hb⟩
          have Hb1 := Lib.hid (below_step Hbw.out (below_dn hb))
          clear hb
          go_wp2_with fail
          go_roundw
          case rel =>
            refine ⟨k + 1, by omega, by go_num, Hb1.out, fun j hj => ?_⟩
            rcases Nat.lt_or_ge j k with h | h
            · exact Hrel.out j h
            · obtain rfl : j = k := by omega
              rw [rgetD_mapM Hrr.out, Hxr.out, Hx0.out]
          case measure => simp [intOf]; omega
        · have e0 : (x != 0) = true := bne_iff_ne.2 hx0
          have Hfin : Hid (chkM m = x) := by
            rw [Hid, Hr.out]
            exact fstE_at Hrel.out (by rw [List.getElem?_map, Hrr.out, ← Hxr.out]; rfl) hx0
          clear hx0
          go_wp2_with fail
          go_quiet (fail)
          go_wp2_with fail
          refine (rvcheck_l (IsV.stb.next Hrow.out (below_drewN (Below.refl _ _) _))).mono ?_
          rw [← Hx.out]
          rintro e w1 ⟨rfl, hb⟩
          have Hb1 := Lib.hid (below_step Hbw.out (below_dn hb))
          clear hb
          go_wp2_with fail
          go_ret
          exact ⟨ret_int Hfin.out.symm, Hb1.out⟩
      · obtain rfl : k = m.length := by omega
        have Hfin : Hid (chkM m = 0) := by
          rw [Hid, Hr.out]
          exact fstE_all (by rw [List.length_map]; exact Hrel.out)
        clear hbw
        go_wp2_with fail
        go_ret
        exact ⟨ret_int Hfin.out.symm, Hbw.out⟩
end Go.Proofs.YtblpaocignlpkaaGreatDoor
/-
  Contracts of the reference's check of a program.
-/
namespace Go.Proofs.YtblpaocignlpkaaGreatDoor
open Go.RowKit
set_option linter.unusedVariables false

set_option maxRecDepth 100000 in
set_option maxHeartbeats 8000000 in
theorem rpcheck {w : World} {v : Value} {p : Prog} (h : IsP w (Old w) v p) : Calls Tryz.prog 54 #[v] w fun e w' => e = .returned (.int .i64 (chkP p)) ∧ Below w.heap.size w w' := by
  obtain ⟨A, a, B, b, C, c, rfl, hA, hB', hC⟩ := h
  have lA := (isM_len hA).choose_spec.choose_spec.2
  have lB := (isV_len hB').choose_spec.choose_spec.2
  have lC := (isV_len hC).choose_spec.choose_spec.2
  obtain ⟨w0, hw0, hb0, rP, Hz⟩ := boxes1 w #[.slice A p.A.length a, .slice B p.B.length b, .slice C p.C.length c] 27
  have A_0 := Lib.hid (IsM.stb.next hA hb0)
  have B_0 := Lib.hid (IsV.stb.next hB' hb0)
  have C_0 := Lib.hid (IsV.stb.next hC hb0)
  have R_0 := Lib.hid (rP)
  have bw_0 := Lib.hid (hb0)
  clear hA hB' hC rP hb0
  obtain ⟨cR0_1, cR1_1, cR2_1⟩ := cells3 R_0.out
  obtain ⟨x, hx⟩ : ∃ x, x = chkM p.A := ⟨_, rfl⟩
  obtain ⟨y, hy⟩ : ∃ y, y = chkV p.B := ⟨_, rfl⟩
  obtain ⟨z, hz⟩ : ∃ z, z = chkV p.C := ⟨_, rfl⟩
  obtain ⟨u, hu⟩ : ∃ u, u = chkF p := ⟨_, rfl⟩
  have Hr : Hid (chkP p = if fstE [x, y, z] ≠ 0 then fstE [x, y, z] else u) := by rw [Hid, hx, hy, hz, hu]; rfl
  have Hx := Lib.hid hx
  have Hy := Lib.hid hy
  have Hz2 := Lib.hid hz
  have Hu := Lib.hid hu
  clear hx hy hz hu
  by_cases hx : x = 0
  case neg =>
    have ex : (x != 0) = true := bne_iff_ne.2 hx
    have Hfin : Hid (chkP p = x) := by rw [Hid, Hr.out]; simp [fstE, hx]
    clear hx
    go_enter Tryz.func54, Tryz.ntmps54
    go_wp2_with fail
    clear hw0
    refine ((show Calls Tryz.prog 109 #[.slice A p.A.length a] w0 (fun e w' => e = .returned (.int .i64 x) ∧ Below (World.heap w0).size w0 w') from by rw [Hx.out]; exact rform_l A_0.out)).mono ?_
    rintro e w1 ⟨rfl, hb⟩
    have A_1 := Lib.hid (IsM.stb.next A_0.out (hb))
    have B_1 := Lib.hid (IsV.stb.next B_0.out (hb))
    have C_1 := Lib.hid (IsV.stb.next C_0.out (hb))
    have R_1 := Lib.hid (Row.next R_0.out (hb))
    have bw_1 := Lib.hid (below_step bw_0.out (hb))
    clear A_0 B_0 C_0 R_0 bw_0
    clear cR0_1 cR1_1 cR2_1
    obtain ⟨cR0_2, cR1_2, cR2_2⟩ := cells3 R_1.out
    go_wp2_with fail
    go_ret
    exact ⟨ret_int Hfin.out.symm, bw_1.out⟩
  have ex : (x != 0) = false := by rw [hx]; rfl
  have zx := Lib.hid hx
  clear hx
  by_cases hy : y = 0
  case neg =>
    have ey : (y != 0) = true := bne_iff_ne.2 hy
    have Hfin : Hid (chkP p = y) := by rw [Hid, Hr.out, zx.out]; simp [fstE, hy]
    clear hy
    go_enter Tryz.func54, Tryz.ntmps54
    go_wp2_with fail
    clear hw0
    refine ((show Calls Tryz.prog 109 #[.slice A p.A.length a] w0 (fun e w' => e = .returned (.int .i64 x) ∧ Below (World.heap w0).size w0 w') from by rw [Hx.out]; exact rform_l A_0.out)).mono ?_
    rintro e w1 ⟨rfl, hb⟩
    have A_1 := Lib.hid (IsM.stb.next A_0.out (hb))
    have B_1 := Lib.hid (IsV.stb.next B_0.out (hb))
    have C_1 := Lib.hid (IsV.stb.next C_0.out (hb))
    have R_1 := Lib.hid (Row.next R_0.out (hb))
    have bw_1 := Lib.hid (below_step bw_0.out (hb))
    clear A_0 B_0 C_0 R_0 bw_0
    clear cR0_1 cR1_1 cR2_1
    obtain ⟨cR0_2, cR1_2, cR2_2⟩ := cells3 R_1.out
    go_wp2_with fail
    refine ((show Calls Tryz.prog 34 #[.slice B p.B.length b] w1 (fun e w' => e = .returned (.int .i64 y) ∧ Below (World.heap w1).size w1 w') from by rw [Hy.out]; exact rvcheck_l B_1.out)).mono ?_
    rintro e w2 ⟨rfl, hb⟩
    have A_2 := Lib.hid (IsM.stb.next A_1.out (hb))
    have B_2 := Lib.hid (IsV.stb.next B_1.out (hb))
    have C_2 := Lib.hid (IsV.stb.next C_1.out (hb))
    have R_2 := Lib.hid (Row.next R_1.out (hb))
    have bw_2 := Lib.hid (below_step bw_1.out (hb))
    clear A_1 B_1 C_1 R_1 bw_1
    clear cR0_2 cR1_2 cR2_2
    obtain ⟨cR0_3, cR1_3, cR2_3⟩ := cells3 R_2.out
    go_wp2_with fail
    go_ret
    exact ⟨ret_int Hfin.out.symm, bw_2.out⟩
  have ey : (y != 0) = false := by rw [hy]; rfl
  have zy := Lib.hid hy
  clear hy
  by_cases hz : z = 0
  case neg =>
    have ez : (z != 0) = true := bne_iff_ne.2 hz
    have Hfin : Hid (chkP p = z) := by rw [Hid, Hr.out, zx.out, zy.out]; simp [fstE, hz]
    clear hz
    go_enter Tryz.func54, Tryz.ntmps54
    go_wp2_with fail
    clear hw0
    refine ((show Calls Tryz.prog 109 #[.slice A p.A.length a] w0 (fun e w' => e = .returned (.int .i64 x) ∧ Below (World.heap w0).size w0 w') from by rw [Hx.out]; exact rform_l A_0.out)).mono ?_
    rintro e w1 ⟨rfl, hb⟩
    have A_1 := Lib.hid (IsM.stb.next A_0.out (hb))
    have B_1 := Lib.hid (IsV.stb.next B_0.out (hb))
    have C_1 := Lib.hid (IsV.stb.next C_0.out (hb))
    have R_1 := Lib.hid (Row.next R_0.out (hb))
    have bw_1 := Lib.hid (below_step bw_0.out (hb))
    clear A_0 B_0 C_0 R_0 bw_0
    clear cR0_1 cR1_1 cR2_1
    obtain ⟨cR0_2, cR1_2, cR2_2⟩ := cells3 R_1.out
    go_wp2_with fail
    refine ((show Calls Tryz.prog 34 #[.slice B p.B.length b] w1 (fun e w' => e = .returned (.int .i64 y) ∧ Below (World.heap w1).size w1 w') from by rw [Hy.out]; exact rvcheck_l B_1.out)).mono ?_
    rintro e w2 ⟨rfl, hb⟩
    have A_2 := Lib.hid (IsM.stb.next A_1.out (hb))
    have B_2 := Lib.hid (IsV.stb.next B_1.out (hb))
    have C_2 := Lib.hid (IsV.stb.next C_1.out (hb))
    have R_2 := Lib.hid (Row.next R_1.out (hb))
    have bw_2 := Lib.hid (below_step bw_1.out (hb))
    clear A_1 B_1 C_1 R_1 bw_1
    clear cR0_2 cR1_2 cR2_2
    obtain ⟨cR0_3, cR1_3, cR2_3⟩ := cells3 R_2.out
    go_wp2_with fail
    refine ((show Calls Tryz.prog 34 #[.slice C p.C.length c] w2 (fun e w' => e = .returned (.int .i64 z) ∧ Below (World.heap w2).size w2 w') from by rw [Hz2.out]; exact rvcheck_l C_2.out)).mono ?_
    rintro e w3 ⟨rfl, hb⟩
    have A_3 := Lib.hid (IsM.stb.next A_2.out (hb))
    have B_3 := Lib.hid (IsV.stb.next B_2.out (hb))
    have C_3 := Lib.hid (IsV.stb.next C_2.out (hb))
    have R_3 := Lib.hid (Row.next R_2.out (hb))
    have bw_3 := Lib.hid (below_step bw_2.out (hb))
    clear A_2 B_2 C_2 R_2 bw_2
    clear cR0_3 cR1_3 cR2_3
    obtain ⟨cR0_4, cR1_4, cR2_4⟩ := cells3 R_3.out
    go_wp2_with fail
    go_ret
    exact ⟨ret_int Hfin.out.symm, bw_3.out⟩
  have ez : (z != 0) = false := by rw [hz]; rfl
  have zz := Lib.hid hz
  clear hz
  have Hfin : Hid (chkP p = u) := by rw [Hid, Hr.out, zx.out, zy.out, zz.out]; simp [fstE]
  by_cases h1 : p.A.length = p.B.length
  case neg =>
    have Hu2 : Hid (u = 10) := by rw [Hid, Hu.out]; unfold chkF fitE; exact if_pos (.inl h1)
    have e1 : ((p.A.length : Int) != (p.B.length : Int)) = true := bne_iff_ne.2 (by omega)
    clear h1
    go_enter Tryz.func54, Tryz.ntmps54
    go_wp2_with fail
    clear hw0
    refine ((show Calls Tryz.prog 109 #[.slice A p.A.length a] w0 (fun e w' => e = .returned (.int .i64 x) ∧ Below (World.heap w0).size w0 w') from by rw [Hx.out]; exact rform_l A_0.out)).mono ?_
    rintro e w1 ⟨rfl, hb⟩
    have A_1 := Lib.hid (IsM.stb.next A_0.out (hb))
    have B_1 := Lib.hid (IsV.stb.next B_0.out (hb))
    have C_1 := Lib.hid (IsV.stb.next C_0.out (hb))
    have R_1 := Lib.hid (Row.next R_0.out (hb))
    have bw_1 := Lib.hid (below_step bw_0.out (hb))
    clear A_0 B_0 C_0 R_0 bw_0
    clear cR0_1 cR1_1 cR2_1
    obtain ⟨cR0_2, cR1_2, cR2_2⟩ := cells3 R_1.out
    go_wp2_with fail
    refine ((show Calls Tryz.prog 34 #[.slice B p.B.length b] w1 (fun e w' => e = .returned (.int .i64 y) ∧ Below (World.heap w1).size w1 w') from by rw [Hy.out]; exact rvcheck_l B_1.out)).mono ?_
    rintro e w2 ⟨rfl, hb⟩
    have A_2 := Lib.hid (IsM.stb.next A_1.out (hb))
    have B_2 := Lib.hid (IsV.stb.next B_1.out (hb))
    have C_2 := Lib.hid (IsV.stb.next C_1.out (hb))
    have R_2 := Lib.hid (Row.next R_1.out (hb))
    have bw_2 := Lib.hid (below_step bw_1.out (hb))
    clear A_1 B_1 C_1 R_1 bw_1
    clear cR0_2 cR1_2 cR2_2
    obtain ⟨cR0_3, cR1_3, cR2_3⟩ := cells3 R_2.out
    go_wp2_with fail
    refine ((show Calls Tryz.prog 34 #[.slice C p.C.length c] w2 (fun e w' => e = .returned (.int .i64 z) ∧ Below (World.heap w2).size w2 w') from by rw [Hz2.out]; exact rvcheck_l C_2.out)).mono ?_
    rintro e w3 ⟨rfl, hb⟩
    have A_3 := Lib.hid (IsM.stb.next A_2.out (hb))
    have B_3 := Lib.hid (IsV.stb.next B_2.out (hb))
    have C_3 := Lib.hid (IsV.stb.next C_2.out (hb))
    have R_3 := Lib.hid (Row.next R_2.out (hb))
    have bw_3 := Lib.hid (below_step bw_2.out (hb))
    clear A_2 B_2 C_2 R_2 bw_2
    clear cR0_3 cR1_3 cR2_3
    obtain ⟨cR0_4, cR1_4, cR2_4⟩ := cells3 R_3.out
    go_wp2_with fail
    go_quiet (fail)
    go_wp2_with fail
    go_ret
    exact ⟨ret_int (by rw [Hfin.out, Hu2.out]), below_drewN bw_3.out _⟩
  have e1 : ((p.A.length : Int) != (p.B.length : Int)) = false := by rw [h1]; simp
  rcases Nat.eq_zero_or_pos p.A.length with h2 | h2
  · have e2 : decide (0 < p.A.length) = false := decide_eq_false (by omega)
    have Hu2 : Hid (u = 0) := by rw [Hid, Hu.out]; unfold chkF fitE; exact if_neg (by rintro (h | ⟨h, _⟩) <;> omega)
    have e3 : p.A.length < 1 := by omega
    clear h1 h2
    go_enter Tryz.func54, Tryz.ntmps54
    go_wp2_with fail
    clear hw0
    refine ((show Calls Tryz.prog 109 #[.slice A p.A.length a] w0 (fun e w' => e = .returned (.int .i64 x) ∧ Below (World.heap w0).size w0 w') from by rw [Hx.out]; exact rform_l A_0.out)).mono ?_
    rintro e w1 ⟨rfl, hb⟩
    have A_1 := Lib.hid (IsM.stb.next A_0.out (hb))
    have B_1 := Lib.hid (IsV.stb.next B_0.out (hb))
    have C_1 := Lib.hid (IsV.stb.next C_0.out (hb))
    have R_1 := Lib.hid (Row.next R_0.out (hb))
    have bw_1 := Lib.hid (below_step bw_0.out (hb))
    clear A_0 B_0 C_0 R_0 bw_0
    clear cR0_1 cR1_1 cR2_1
    obtain ⟨cR0_2, cR1_2, cR2_2⟩ := cells3 R_1.out
    go_wp2_with fail
    refine ((show Calls Tryz.prog 34 #[.slice B p.B.length b] w1 (fun e w' => e = .returned (.int .i64 y) ∧ Below (World.heap w1).size w1 w') from by rw [Hy.out]; exact rvcheck_l B_1.out)).mono ?_
    rintro e w2 ⟨rfl, hb⟩
    have A_2 := Lib.hid (IsM.stb.next A_1.out (hb))
    have B_2 := Lib.hid (IsV.stb.next B_1.out (hb))
    have C_2 := Lib.hid (IsV.stb.next C_1.out (hb))
    have R_2 := Lib.hid (Row.next R_1.out (hb))
    have bw_2 := Lib.hid (below_step bw_1.out (hb))
    clear A_1 B_1 C_1 R_1 bw_1
    clear cR0_2 cR1_2 cR2_2
    obtain ⟨cR0_3, cR1_3, cR2_3⟩ := cells3 R_2.out
    go_wp2_with fail
    refine ((show Calls Tryz.prog 34 #[.slice C p.C.length c] w2 (fun e w' => e = .returned (.int .i64 z) ∧ Below (World.heap w2).size w2 w') from by rw [Hz2.out]; exact rvcheck_l C_2.out)).mono ?_
    rintro e w3 ⟨rfl, hb⟩
    have A_3 := Lib.hid (IsM.stb.next A_2.out (hb))
    have B_3 := Lib.hid (IsV.stb.next B_2.out (hb))
    have C_3 := Lib.hid (IsV.stb.next C_2.out (hb))
    have R_3 := Lib.hid (Row.next R_2.out (hb))
    have bw_3 := Lib.hid (below_step bw_2.out (hb))
    clear A_2 B_2 C_2 R_2 bw_2
    clear cR0_3 cR1_3 cR2_3
    obtain ⟨cR0_4, cR1_4, cR2_4⟩ := cells3 R_3.out
    go_wp2_with fail
    go_quiet (fail)
    go_wp2_with fail
    go_ret
    exact ⟨ret_int (by rw [Hfin.out, Hu2.out]), below_drewN bw_3.out _⟩
  · have e2 : decide (0 < p.A.length) = true := decide_eq_true h2
    obtain ⟨row0, hrow0⟩ := rsome_at h2
    have hM := A_0.out
    obtain ⟨bb, off, P, kP, rfl, _, _, cM⟩ := isM_get hM hrow0
    rw [Nat.add_zero] at cM
    have hh : (p.A.headD []).length = row0.length := by
      cases hA : p.A with
      | nil => rw [hA] at h2; simp at h2
      | cons a t => rw [hA] at hrow0; simp at hrow0; rw [← hrow0]; rfl
    have H1 := Lib.hid h1
    have Hh := Lib.hid hh
    clear h1 hrow0 hh hM
    by_cases h3 : row0.length = p.C.length
    · have e3 : ((row0.length : Int) != (p.C.length : Int)) = false := by rw [h3]; simp
      have Hu2 : Hid (u = 0) := by rw [Hid, Hu.out]; unfold chkF fitE; exact if_neg (by rw [Hh.out, H1.out]; rintro (h | ⟨_, h⟩); exact h rfl; exact h h3)
      clear h3
      go_enter Tryz.func54, Tryz.ntmps54
      go_wp2_with fail
      clear hw0
      refine ((show Calls Tryz.prog 109 #[.slice (some ⟨bb, off, none⟩) p.A.length a] w0 (fun e w' => e = .returned (.int .i64 x) ∧ Below (World.heap w0).size w0 w') from by rw [Hx.out]; exact rform_l A_0.out)).mono ?_
      rintro e w1 ⟨rfl, hb⟩
      have A_1 := Lib.hid (IsM.stb.next A_0.out (hb))
      have B_1 := Lib.hid (IsV.stb.next B_0.out (hb))
      have C_1 := Lib.hid (IsV.stb.next C_0.out (hb))
      have R_1 := Lib.hid (Row.next R_0.out (hb))
      have bw_1 := Lib.hid (below_step bw_0.out (hb))
      clear A_0 B_0 C_0 R_0 bw_0
      have cM_2 := keep_cell (hb) cM
      clear cR0_1 cR1_1 cR2_1 cM
      obtain ⟨cR0_3, cR1_3, cR2_3⟩ := cells3 R_1.out
      go_wp2_with fail
      refine ((show Calls Tryz.prog 34 #[.slice B p.B.length b] w1 (fun e w' => e = .returned (.int .i64 y) ∧ Below (World.heap w1).size w1 w') from by rw [Hy.out]; exact rvcheck_l B_1.out)).mono ?_
      rintro e w2 ⟨rfl, hb⟩
      have A_2 := Lib.hid (IsM.stb.next A_1.out (hb))
      have B_2 := Lib.hid (IsV.stb.next B_1.out (hb))
      have C_2 := Lib.hid (IsV.stb.next C_1.out (hb))
      have R_2 := Lib.hid (Row.next R_1.out (hb))
      have bw_2 := Lib.hid (below_step bw_1.out (hb))
      clear A_1 B_1 C_1 R_1 bw_1
      have cM_4 := keep_cell (hb) cM_2
      clear cR0_3 cR1_3 cR2_3 cM_2
      obtain ⟨cR0_5, cR1_5, cR2_5⟩ := cells3 R_2.out
      go_wp2_with fail
      refine ((show Calls Tryz.prog 34 #[.slice C p.C.length c] w2 (fun e w' => e = .returned (.int .i64 z) ∧ Below (World.heap w2).size w2 w') from by rw [Hz2.out]; exact rvcheck_l C_2.out)).mono ?_
      rintro e w3 ⟨rfl, hb⟩
      have A_3 := Lib.hid (IsM.stb.next A_2.out (hb))
      have B_3 := Lib.hid (IsV.stb.next B_2.out (hb))
      have C_3 := Lib.hid (IsV.stb.next C_2.out (hb))
      have R_3 := Lib.hid (Row.next R_2.out (hb))
      have bw_3 := Lib.hid (below_step bw_2.out (hb))
      clear A_2 B_2 C_2 R_2 bw_2
      have cM_6 := keep_cell (hb) cM_4
      clear cR0_5 cR1_5 cR2_5 cM_4
      obtain ⟨cR0_7, cR1_7, cR2_7⟩ := cells3 R_3.out
      go_wp2_with fail
      go_quiet (fail)
      go_wp2_with fail
      go_ret
      exact ⟨ret_int (by rw [Hfin.out, Hu2.out]), below_drewN bw_3.out _⟩
    · have e3 : ((row0.length : Int) != (p.C.length : Int)) = true := bne_iff_ne.2 (by omega)
      have Hu2 : Hid (u = 10) := by rw [Hid, Hu.out]; unfold chkF fitE; exact if_pos (.inr ⟨by rw [← H1.out]; exact h2, by rw [Hh.out]; exact h3⟩)
      clear h3
      go_enter Tryz.func54, Tryz.ntmps54
      go_wp2_with fail
      clear hw0
      refine ((show Calls Tryz.prog 109 #[.slice (some ⟨bb, off, none⟩) p.A.length a] w0 (fun e w' => e = .returned (.int .i64 x) ∧ Below (World.heap w0).size w0 w') from by rw [Hx.out]; exact rform_l A_0.out)).mono ?_
      rintro e w1 ⟨rfl, hb⟩
      have A_1 := Lib.hid (IsM.stb.next A_0.out (hb))
      have B_1 := Lib.hid (IsV.stb.next B_0.out (hb))
      have C_1 := Lib.hid (IsV.stb.next C_0.out (hb))
      have R_1 := Lib.hid (Row.next R_0.out (hb))
      have bw_1 := Lib.hid (below_step bw_0.out (hb))
      clear A_0 B_0 C_0 R_0 bw_0
      have cM_2 := keep_cell (hb) cM
      clear cR0_1 cR1_1 cR2_1 cM
      obtain ⟨cR0_3, cR1_3, cR2_3⟩ := cells3 R_1.out
      go_wp2_with fail
      refine ((show Calls Tryz.prog 34 #[.slice B p.B.length b] w1 (fun e w' => e = .returned (.int .i64 y) ∧ Below (World.heap w1).size w1 w') from by rw [Hy.out]; exact rvcheck_l B_1.out)).mono ?_
      rintro e w2 ⟨rfl, hb⟩
      have A_2 := Lib.hid (IsM.stb.next A_1.out (hb))
      have B_2 := Lib.hid (IsV.stb.next B_1.out (hb))
      have C_2 := Lib.hid (IsV.stb.next C_1.out (hb))
      have R_2 := Lib.hid (Row.next R_1.out (hb))
      have bw_2 := Lib.hid (below_step bw_1.out (hb))
      clear A_1 B_1 C_1 R_1 bw_1
      have cM_4 := keep_cell (hb) cM_2
      clear cR0_3 cR1_3 cR2_3 cM_2
      obtain ⟨cR0_5, cR1_5, cR2_5⟩ := cells3 R_2.out
      go_wp2_with fail
      refine ((show Calls Tryz.prog 34 #[.slice C p.C.length c] w2 (fun e w' => e = .returned (.int .i64 z) ∧ Below (World.heap w2).size w2 w') from by rw [Hz2.out]; exact rvcheck_l C_2.out)).mono ?_
      rintro e w3 ⟨rfl, hb⟩
      have A_3 := Lib.hid (IsM.stb.next A_2.out (hb))
      have B_3 := Lib.hid (IsV.stb.next B_2.out (hb))
      have C_3 := Lib.hid (IsV.stb.next C_2.out (hb))
      have R_3 := Lib.hid (Row.next R_2.out (hb))
      have bw_3 := Lib.hid (below_step bw_2.out (hb))
      clear A_2 B_2 C_2 R_2 bw_2
      have cM_6 := keep_cell (hb) cM_4
      clear cR0_5 cR1_5 cR2_5 cM_4
      obtain ⟨cR0_7, cR1_7, cR2_7⟩ := cells3 R_3.out
      go_wp2_with fail
      go_quiet (fail)
      go_wp2_with fail
      go_ret
      exact ⟨ret_int (by rw [Hfin.out, Hu2.out]), below_drewN bw_3.out _⟩
end Go.Proofs.YtblpaocignlpkaaGreatDoor
/-
  Contracts of the reference for layer 5: minus, least, one.
-/
namespace Go.Proofs.YtblpaocignlpkaaGreatDoor
open Go.RowKit
set_option linter.unusedVariables false

set_option maxRecDepth 100000 in
set_option maxHeartbeats 1000000 in
theorem rleast_l {w : World} {v : Value} {l : List Raw} (h : IsV w (Old w) v l) :
    Calls Tryz.prog 125 #[v] w fun e w' => e = .returned (.bool (!anyNeg l)) ∧ Below w.heap.size w w' := by
  have H := Lib.hid h
  obtain ⟨A, c, rfl, hl⟩ := isV_len h
  clear h
  go_enter Tryz.func125, Tryz.ntmps125
  go_wp2_with fail
  go_loopw [3] (fun i wr => ∃ k : Nat, k ≤ l.length ∧ i = .int .i64 (k : Int) ∧ Below w.heap.size w wr ∧ Hid (∀ j, j < k → ∀ r, l[j]? = some r → r.neg = false)) (fun i _ => l.length - (intOf i).toNat)
  case atStart => exact ⟨0, Nat.zero_le _, rfl, Below.refl _ _, fun j hj => by omega⟩
  case round =>
    obtain ⟨k, hk, rfl, hbw, hrel⟩ := hrel
    have Hbw := Lib.hid hbw
    have Hrel := Lib.hid hrel.out
    clear hrel
    rcases Nat.lt_or_ge k l.length with hlt | hge
    · obtain ⟨r, hr⟩ := some_at hlt
      obtain ⟨b, off, P, kP, Q, kQ, rfl, hSb, hel, c0, c1, c2⟩ := isV_get (IsV.stb.next H.out hbw) hr
      have Hrr := Lib.hid hr
      have cr := ratCells
      obtain ⟨s, hs⟩ : ∃ s, s = r.neg := ⟨_, rfl⟩
      rw [← hs] at c0
      have Hs := Lib.hid hs
      clear hel hr hbw hs
      cases s with
      | true =>
        have Hfin : Hid (anyNeg l = true) := anyNeg_at Hrr.out Hs.out.symm
        go_wp2_with fail
        go_ret
        exact ⟨ret_bool (by rw [Hfin.out]; rfl), Hbw.out⟩
      | false =>
        go_wp2_with fail
        go_roundw
        case rel =>
          refine ⟨k + 1, by omega, by go_num, Hbw.out, fun j hj r' hr' => ?_⟩
          rcases Nat.lt_or_ge j k with h | h
          · exact Hrel.out j h r' hr'
          · obtain rfl : j = k := by omega
            rw [Hrr.out] at hr'
            cases hr'
            exact Hs.out.symm
        case measure => simp [intOf]; omega
    · obtain rfl : k = l.length := by omega
      have Hfin : Hid (anyNeg l = false) := anyNeg_take Hrel.out
      clear hbw
      go_wp2_with fail
      go_ret
      exact ⟨ret_bool (by rw [Hfin.out]; rfl), Hbw.out⟩

set_option maxRecDepth 100000 in
set_option maxHeartbeats 1000000 in
theorem rminus_s {w : World} {v : Value} {l : List Rat} {S0 : Nat → Prop} (h : IsV w S0 v (rawV l)) (hS0 : ∀ b, S0 b → b < w.heap.size) (hlen : l.length ≤ 1000) :
    Calls Tryz.prog 121 #[v] w fun e w' => (∃ v', e = .returned v' ∧ IsV w' (Grow S0 w w') v' (rawV (negV l))) ∧ Below w.heap.size w w' := by
  have H := Lib.hid h
  have HS0 := Lib.hid hS0
  obtain ⟨A, c, rfl, hl⟩ := isV_len h
  have el : (rawV l).length = l.length := by simp [rawV]
  rw [el] at *
  clear h el hS0
  go_enter Tryz.func121, Tryz.ntmps121
  go_wp2_with fail
  go_loopw [3, 4] (fun v i wr => ∃ (k : Nat) (S : Nat → Prop), k ≤ l.length ∧ i = .int .i64 (k : Int) ∧ Below w.heap.size w wr ∧ OwnS 3 31 IsR wr w.heap.size S v (rawV (negV (l.take k))) ∧ Hid ((∀ b, S0 b → S b) ∧ ∀ b, S b → S0 b ∨ w.heap.size ≤ b)) (fun _ i _ => l.length - (intOf i).toNat)
  case atStart => exact ⟨0, S0, Nat.zero_le _, rfl, Below.refl _ _, by simpa [rawV, negV] using (OwnS.nil HS0.out : OwnS 3 31 IsR w w.heap.size S0 _ _), fun _ h => h, fun _ h => .inl h⟩
  case round =>
    obtain ⟨k, S, hk, rfl, hbw, hown, hS⟩ := hrel
    have Hbw := Lib.hid hbw
    have HS := Lib.hid hS.out
    clear hS
    rcases Nat.lt_or_ge k l.length with hlt | hge
    · obtain ⟨q, hq, hr⟩ := rawV_get hlt
      obtain ⟨b, off, P, kP, Q, kQ, rfl, hSb, hel, c0, c1, c2⟩ := isV_get H.out hr
      have hSb' : b < w.heap.size := HS0.out b hSb
      have e0 := hbw.cell (p := ⟨b, off + k * 3, none⟩) hSb' |>.trans c0
      have e1 := hbw.cell (p := ⟨b, off + k * 3 + 1, none⟩) hSb' |>.trans c1
      have e2 := hbw.cell (p := ⟨b, off + k * 3 + 2, none⟩) hSb' |>.trans c2
      have Hel := Lib.hid (IsQ.stb.to (isR_isQ hel) (same_below (S := S0) hbw HS0.out))
      have Hq := Lib.hid hq
      have cr := ratCells
      obtain ⟨p, hp⟩ : ∃ p, p = -q := ⟨_, rfl⟩
      have Hp := Lib.hid hp
      have Hown := Lib.hid hown
      have hsz := hbw.size
      clear hel hr hbw hq hp hown c0 c1 c2
      go_wp2_with fail
      refine (rneg_s Hel.out (fun b h => Nat.lt_of_lt_of_le (HS0.out b h) hsz) Hp.out).mono ?_
      rintro e w2 ⟨⟨v2, rfl, hv2⟩, hb⟩
      have Hb2 := Lib.hid hb
      have Hv2 := Lib.hid hv2
      have Hbs := Lib.hid (below_step Hbw.out hb)
      have hbase : w.heap.size ≤ w2.heap.size := Hbs.out.size
      obtain ⟨s2, P2, k2, O2, l2, rfl, _, _, _⟩ := isQ_open hv2
      have hown2 := OwnS.step IsR.stb (T := fun b => S b ∨ (wr.heap.size ≤ b ∧ b < w2.heap.size)) Hown.out Hb2.out (fun b h => .inl h) (fun b h => h)
      have hel2 := IsQ.stb.to Hv2.out (same_imp (T := fun b => S b ∨ (wr.heap.size ≤ b ∧ b < w2.heap.size)) fun b h => .inl (HS.out.1 b h))
      clear hb hv2 e0 e1 e2
      go_wp2_with (at_builtin; refine wp_appS elR rfl _ _ rfl IsR.stb rfl rfl rfl hown2 hel2 rfl (by intro u hu; simp [Value.cells] at hu; rcases hu with rfl | rfl | rfl <;> rfl) (by simp [rawV, negV]; omega) hbase ?_; intro v3 w3 hown3 hb3 hz3)
      go_roundw
      case rel =>
        refine ⟨k + 1, fun b => S b ∨ (wr.heap.size ≤ b ∧ b < w2.heap.size), by omega, by go_num, Hbs.out.trans hb3, ?_, fun b hb => .inl (HS.out.1 b hb), fun b hb => by rcases hb with hb | hb; exact HS.out.2 b hb; exact .inr (Nat.le_trans hsz hb.1)⟩
        rw [take_snoc Hq.out, negV, List.map_append, rawV, List.map_append]
        simp only [List.map_cons, List.map_nil]
        rw [← Hp.out]
        exact hown3
      case measure => simp [intOf]; omega
    · obtain rfl : k = l.length := by omega
      have Hown := Lib.hid hown
      clear hown
      go_wp2_with fail
      go_ret
      refine ⟨⟨_, rfl, ?_⟩, Hbw.out⟩
      have h1 := OwnS.isS IsR.stb (T := Grow S0 w wr) Hown.out (fun b hb => by obtain ⟨_, _, _, _, h4⟩ := Hown.out; rcases HS.out.2 b hb with h | h; exact .inl h; exact .inr ⟨h, (h4 b hb).1⟩) (fun b h1 h2 => .inr ⟨h1, h2⟩)
      rw [List.take_length] at h1
      exact h1
theorem rminus_l {w : World} {v : Value} {l : List Rat} (h : IsV w (Old w) v (rawV l)) (hlen : l.length ≤ 1000) :
    Calls Tryz.prog 121 #[v] w fun e w' => (∃ v', e = .returned v' ∧ IsV w' (Old w') v' (rawV (negV l))) ∧ Below w.heap.size w w' :=
  (rminus_s h (fun b h => h) hlen).mono fun e w' ⟨⟨v', he, hv⟩, hb⟩ => ⟨⟨v', he, IsV.stb.to hv (same_imp fun b h => by rcases h with h | h; exact Nat.lt_of_lt_of_le h hb.size; exact h.2)⟩, hb⟩

theorem rpcheck_at {w w0 : World} {v : Value} {p : Prog} (h : IsP w (Old w) v p) (hb : Below w.heap.size w w0) : Calls Tryz.prog 54 #[v] w0 fun e w' => e = .returned (.int .i64 (chkP p)) ∧ Below w0.heap.size w0 w' := rpcheck (IsP.stb.to h (same_old hb))
theorem givE_one {p : Prog} {n : Nat} {x : List Raw} : givE p [n] [x] = if chkP p ≠ 0 then chkP p else if chkV x ≠ 0 then chkV x else if x.length ≠ n then 10 else 0 := by
  unfold givE
  split
  · rfl
  · simp only [List.zipWith_cons_cons, List.zipWith_nil_left, fstE]
    unfold vecE
    by_cases h : chkV x = 0
    · by_cases h2 : x.length = n <;> simp [h, h2]
    · simp [h]
set_option maxRecDepth 100000 in
set_option maxHeartbeats 1000000 in
theorem rone_l {w : World} {vp vx : Value} {p : Prog} {x : List Raw} {n : Nat} (hp : IsP w (Old w) vp p) (hx : IsV w (Old w) vx x) (hn : n ≤ 9223372036854775807) :
    Calls Tryz.prog 76 #[vp, vx, .int .i64 (n : Int)] w fun e w' => e = .returned (.int .i64 (givE p [n] [x])) ∧ Below w.heap.size w w' := by
  have HP := Lib.hid hp
  have HX := Lib.hid hx
  obtain ⟨A, cA, B, cB, C, cC, rfl, _⟩ := hp
  obtain ⟨D, cD, rfl, _⟩ := isV_len hx
  clear hx
  obtain ⟨w0, hw0, hb0, rP, Hz⟩ := boxes1 w #[.slice A p.A.length cA, .slice B p.B.length cB, .slice C p.C.length cC] 27
  have HB0 := Lib.hid hb0
  obtain ⟨cP0, cP1, cP2⟩ := cells3 rP
  obtain ⟨e1, he1⟩ : ∃ e, e = chkP p := ⟨_, rfl⟩
  obtain ⟨e2, he2⟩ : ∃ e, e = chkV x := ⟨_, rfl⟩
  have hg := @givE_one p n x
  rw [← he1, ← he2] at hg
  have He1 := Lib.hid he1
  have He2 := Lib.hid he2
  clear rP hb0 he1 he2
  by_cases h1 : e1 = 0
  case neg =>
    have Hfin : Hid (givE p [n] [x] = e1) := by rw [Hid, hg, if_pos h1]
    have b1 : (e1 != 0) = true := bne_iff_ne.2 h1
    clear hg h1
    go_enter Tryz.func76, Tryz.ntmps76
    go_wp2_with fail
    clear hw0
    refine (rpcheck_at HP.out HB0.out).mono ?_
    rw [← He1.out]
    rintro e w1 ⟨rfl, hb⟩
    go_wp2_with fail
    go_ret
    exact ⟨ret_int Hfin.out.symm, below_step HB0.out hb⟩
  subst h1
  rw [if_neg (by simp)] at hg
  by_cases h2 : e2 = 0
  case neg =>
    have Hfin : Hid (givE p [n] [x] = e2) := by rw [Hid, hg, if_pos h2]
    have b1 : (e2 != 0) = true := bne_iff_ne.2 h2
    clear hg h2
    go_enter Tryz.func76, Tryz.ntmps76
    go_wp2_with fail
    clear hw0
    refine (rpcheck_at HP.out HB0.out).mono ?_
    rw [← He1.out]
    rintro e w1 ⟨rfl, hb⟩
    have Hb1 := Lib.hid (below_step HB0.out hb)
    clear hb
    go_wp2_with fail
    refine (rvcheck_l (IsV.stb.to HX.out (same_old Hb1.out))).mono ?_
    rw [← He2.out]
    rintro e w2 ⟨rfl, hb⟩
    go_wp2_with fail
    go_ret
    exact ⟨ret_int Hfin.out.symm, below_step Hb1.out hb⟩
  subst h2
  rw [if_neg (by simp)] at hg
  obtain ⟨m, hm⟩ : ∃ m, m = x.length := ⟨_, rfl⟩
  rw [← hm] at hg HX ⊢
  clear hm
  by_cases h3 : m = n
  case neg =>
    have Hfin : Hid (givE p [n] [x] = 10) := by rw [Hid, hg, if_pos h3]
    have b1 : ((m : Int) != (n : Int)) = true := bne_iff_ne.2 (by omega)
    clear hg h3
    go_enter Tryz.func76, Tryz.ntmps76
    go_wp2_with fail
    clear hw0
    refine (rpcheck_at HP.out HB0.out).mono ?_
    rw [← He1.out]
    rintro e w1 ⟨rfl, hb⟩
    have Hb1 := Lib.hid (below_step HB0.out hb)
    clear hb
    go_wp2_with fail
    refine (rvcheck_l (IsV.stb.to HX.out (same_old Hb1.out))).mono ?_
    rw [← He2.out]
    rintro e w2 ⟨rfl, hb⟩
    go_wp2_with fail
    go_ret
    exact ⟨ret_int Hfin.out.symm, below_step Hb1.out hb⟩
  have Hfin : Hid (givE p [n] [x] = 0) := by rw [Hid, hg, if_neg (fun h => h h3)]
  have b1 : ((m : Int) != (n : Int)) = false := by rw [h3]; simp
  clear hg h3
  go_enter Tryz.func76, Tryz.ntmps76
  go_wp2_with fail
  clear hw0
  refine (rpcheck_at HP.out HB0.out).mono ?_
  rw [← He1.out]
  rintro e w1 ⟨rfl, hb⟩
  have Hb1 := Lib.hid (below_step HB0.out hb)
  clear hb
  go_wp2_with fail
  refine (rvcheck_l (IsV.stb.to HX.out (same_old Hb1.out))).mono ?_
  rw [← He2.out]
  rintro e w2 ⟨rfl, hb⟩
  go_wp2_with fail
  go_ret
  exact ⟨ret_int Hfin.out.symm, below_step Hb1.out hb⟩
end Go.Proofs.YtblpaocignlpkaaGreatDoor
/-
  Contracts of the reference: Whole at 0, Zero, Product.
-/
namespace Go.Proofs.YtblpaocignlpkaaGreatDoor
open Go.RowKit
set_option linter.unusedVariables false

theorem rsize0 (w : World) : Calls Tryz.prog 148 #[.int .i64 0] w fun e w' => e = .returned (.slice none 0 0) ∧ w = w' := by
  go_enter Tryz.func148, Tryz.ntmps148
  go_wp2_with fail
  go_loopw [0, 3, 4] (fun n o d wr => n = .int .i64 0 ∧ o = .slice none 0 0 ∧ w = wr) (fun _ _ _ _ => 0)
  case atStart => exact ⟨rfl, rfl, rfl⟩
  case round =>
    obtain ⟨rfl, rfl, rfl⟩ := hrel
    go_wp2_with fail
    go_ret
    exact ⟨rfl, rfl⟩

theorem whole0_q (w : World) : Calls Tryz.prog 110 #[.int .i64 0] w (RetQ w 0) := by
  obtain ⟨w0, hw0, hb0, rZ, Hz⟩ := boxes1 w #[.bool false, .slice none 0 0, .slice none 0 0] 31
  have RZ := Lib.hid rZ
  have HB0 := Lib.hid hb0
  clear rZ hb0
  go_enter Tryz.func110, Tryz.ntmps110
  go_wp2_with fail
  clear hw0
  refine (rsize0 _).mono ?_
  rintro e w1 ⟨rfl, rfl⟩
  go_wp2_with fail
  refine (lowest_q (n := 0) (d := 1) (q := 0) (neg := false) (numS_old numS_zero) (numS_old (IsK.stb.old (lit_one w0))) (by omega) (by rw [lim_zero]; decide) (by rw [lim_one]; decide) (by rw [sg_zero, Rat.zero_mkRat])).mono ?_
  rintro e w2 ⟨⟨v, rfl, hv⟩, hb⟩
  have HV := Lib.hid (IsQ.stb.le hv (m := w.heap.size + 1) (by have := Hz.out; rw [World.size_alloc]; omega))
  have hb2 := below_step (below_new _ _) hb
  have Hb2 := Lib.hid (below_step HB0.out hb2)
  have RZ2 := Lib.hid (RZ.out.next hb2)
  obtain ⟨s, P, k, O, l, rfl, _, _, _⟩ := isQ_open hv
  obtain ⟨d0, d1, d2⟩ := cells3 RZ2.out
  obtain ⟨f0, f1, f2⟩ := free3 RZ2.out
  clear hb hb2 hv
  go_wp2_with fail
  refine ret_rat Tryz.results110 rfl rfl (Row.put3 RZ2.out _ _ _) (retQ2 HV.out Hb2.out (Nat.le_refl _) (by omega))

theorem rzero_q {w : World} {v : Value} {q : Rat} (h : IsQ w (Old w) v q) : Calls Tryz.prog 69 #[v] w fun e w' => e = .returned (.bool (decide (q = 0))) ∧ Below w.heap.size w w' := by
  have hl : (lim q.num.natAbs).length ≤ 9223372036854775807 := len_max (numS_old (isQ_open h).choose_spec.choose_spec.choose_spec.choose_spec.choose_spec.2.2.1.out)
  obtain ⟨s, P, k, O, l, rfl, _, _, _⟩ := isQ_open h
  clear h
  obtain ⟨w0, hw0, hb0, rA, Hz⟩ := boxes1 w #[.bool s, .slice P (lim q.num.natAbs).length k, .slice O (lim q.den).length l] 31
  have HB0 := Lib.hid hb0
  obtain ⟨c0, c1, c2⟩ := cells3 rA
  have Hq : Hid ((((lim q.num.natAbs).length : Int) == 0) = decide (q = 0)) := by
    unfold Hid
    rcases Decidable.em (q = 0) with h | h
    · rw [decide_eq_true h]; exact len_zero (num_zero_iff.2 h)
    · rw [decide_eq_false h]; exact len_pos (num_ne h)
  clear hb0 rA
  go_enter Tryz.func69, Tryz.ntmps69
  go_wp2_with fail
  go_ret
  exact ⟨by show Ending.returned (.bool _) = _; rw [Hq.out], HB0.out⟩

set_option maxRecDepth 100000 in
set_option maxHeartbeats 4000000 in
theorem product_q {w : World} {va vb : Value} {a b : List Rat} {M : Nat} (ha : IsV w (Old w) va (rawV a)) (hb : IsV w (Old w) vb (rawV b)) (hla : a.length = M) (hlb : b.length = M) (hM : M ≤ 40) (sa : ∀ q ∈ a, Sz q 1024) (sb : ∀ q ∈ b, Sz q 1024) :
    Calls Tryz.prog 62 #[va, vb] w (RetQ w (dotQ a b)) := by
  have HA := Lib.hid ha
  have HV := Lib.hid hb
  have Hla := Lib.hid hla
  have Hlb := Lib.hid hlb
  have Hsa := Lib.hid sa
  have Hsb := Lib.hid sb
  have Hz40 : Hid (∀ k, Sz (sumP ((a.zip b).take k)) 100000) := fun k => sumP_any (n := 1024) (by rw [List.length_take, List.length_zip]; omega) fun p hp => by
    have := List.of_mem_zip (List.mem_of_mem_take hp)
    exact ⟨sa _ this.1, sb _ this.2⟩
  obtain ⟨A, cA, rfl, _⟩ := isV_len ha
  obtain ⟨B, cB, rfl, _⟩ := isV_len hb
  have ela : (rawV a).length = M := by simp [rawV, hla]
  have elb : (rawV b).length = M := by simp [rawV, hlb]
  rw [ela] at HA
  rw [elb] at HV
  rw [ela, elb]
  clear ha hb hla hlb sa sb ela elb
  obtain ⟨w0, hw0, hb0, rZ, Hz⟩ := boxes1 w #[.bool false, .slice none 0 0, .slice none 0 0] 31
  have RZ := Lib.hid rZ
  have HB0 := Lib.hid hb0
  clear rZ hb0
  go_enter Tryz.func62, Tryz.ntmps62
  go_wp2_with fail
  clear hw0
  refine (whole0_q _).mono ?_
  rintro e w1 ⟨⟨v, rfl, hv⟩, hb⟩
  have HV1 := Lib.hid (IsQ.stb.le hv (m := w.heap.size + 1) (by have := Hz.out; omega))
  have Hb1 := Lib.hid (below_step HB0.out hb)
  have RZ1 := Lib.hid (RZ.out.next hb)
  obtain ⟨s, P, k, O, l, rfl, _, _, _⟩ := isQ_open hv
  clear hb hv
  go_wp2_with fail
  go_loopw [6] (fun i wr => ∃ (k : Nat) (S : Bool) (vn vd : Value), k ≤ M ∧ i = .int .i64 (k : Int) ∧ Below w.heap.size w wr ∧ Row wr w.heap.size 31 [.bool false, .slice none 0 0, .slice none 0 0] ∧ Row wr w1.heap.size 31 [.bool S, vn, vd] ∧ IsQ wr (fun b => New (w.heap.size + 1) wr b ∧ b ≠ w1.heap.size) (.agg #[.bool S, vn, vd]) (sumP ((a.zip b).take k))) (fun i _ => M - (intOf i).toNat)
  case atStart =>
    refine ⟨0, _, _, _, Nat.zero_le _, rfl, below_step Hb1.out (below_new _ _), RZ1.out.next (below_new _ _), heap_alloc_new w1 _, IsQ.stb.to HV1.out fun x hx => ⟨⟨⟨hx.1, by have := hx.2; rw [World.size_alloc]; omega⟩, by have := hx.2; omega⟩, fun o => (below_new w1 _).cell (p := ⟨x, o, none⟩) hx.2⟩⟩
  case round =>
    obtain ⟨k, S, vn, vd, hk, rfl, hbw, rz, rs, hs⟩ := hrel
    have hsq := IsQ.stb.to hs (same_imp fun b h => h.1.2 : Same _ (Old wr) wr wr)
    have Hs := Lib.hid hs
    have Hsq := Lib.hid hsq
    have HBw := Lib.hid hbw
    have RZw := Lib.hid rz
    have RSw := Lib.hid rs
    obtain ⟨s', P', k', O', l', hve, _, _, _⟩ := isQ_open hs
    simp only [Value.agg.injEq, Array.mk.injEq, List.cons.injEq, Value.bool.injEq] at hve
    obtain ⟨rfl, rfl, rfl, _⟩ := hve
    clear hs hsq rz rs
    rcases Nat.lt_or_ge k M with hlt | hge
    · obtain ⟨x, hx, hrx⟩ := rawV_get (l := a) (j := k) (by rw [Hla.out]; exact hlt)
      obtain ⟨y, hy, hry⟩ := rawV_get (l := b) (j := k) (by rw [Hlb.out]; exact hlt)
      obtain ⟨b1, o1, X1, X2, X3, X4, rfl, hSb1, helx, c0, c1, c2⟩ := isV_get HA.out hrx
      obtain ⟨b2, o2, Y1, Y2, Y3, Y4, rfl, hSb2, hely, d0, d1, d2⟩ := isV_get HV.out hry
      obtain ⟨x0, hx0⟩ : ∃ s, s = (raw x).neg := ⟨_, rfl⟩
      obtain ⟨x1, hx1⟩ : ∃ s, s = (raw x).num.length := ⟨_, rfl⟩
      obtain ⟨x2, hx2⟩ : ∃ s, s = (raw x).den.length := ⟨_, rfl⟩
      obtain ⟨y0, hy0⟩ : ∃ s, s = (raw y).neg := ⟨_, rfl⟩
      obtain ⟨y1, hy1⟩ : ∃ s, s = (raw y).num.length := ⟨_, rfl⟩
      obtain ⟨y2, hy2⟩ : ∃ s, s = (raw y).den.length := ⟨_, rfl⟩
      rw [← hx0] at c0
      rw [← hx1] at c1
      rw [← hx2] at c2
      rw [← hy0] at d0
      rw [← hy1] at d1
      rw [← hy2] at d2
      rw [← hx0, ← hx1, ← hx2] at helx
      rw [← hy0, ← hy1, ← hy2] at hely
      have e0 := hbw.cell (p := ⟨b1, o1 + k * 3, none⟩) hSb1 |>.trans c0
      have e1 := hbw.cell (p := ⟨b1, o1 + k * 3 + 1, none⟩) hSb1 |>.trans c1
      have e2 := hbw.cell (p := ⟨b1, o1 + k * 3 + 2, none⟩) hSb1 |>.trans c2
      have f0 := hbw.cell (p := ⟨b2, o2 + k * 3, none⟩) hSb2 |>.trans d0
      have f1 := hbw.cell (p := ⟨b2, o2 + k * 3 + 1, none⟩) hSb2 |>.trans d1
      have f2 := hbw.cell (p := ⟨b2, o2 + k * 3 + 2, none⟩) hSb2 |>.trans d2
      have hSb1' : b1 < w.heap.size := hSb1
      have hSb2' : b2 < w.heap.size := hSb2
      have hw1 : w.heap.size < w1.heap.size := RZ1.out.lt
      obtain ⟨p, hp⟩ : ∃ p, p = x * y := ⟨_, rfl⟩
      obtain ⟨S1, hS1⟩ : ∃ r, r = sumP ((a.zip b).take k) := ⟨_, rfl⟩
      obtain ⟨S2, hS2⟩ : ∃ r, r = S1 + p := ⟨_, rfl⟩
      rw [← hS1] at Hsq RSw
      have Hend : Hid (S2 = sumP ((a.zip b).take (k + 1))) := by
        rw [Hid, take_snoc (x := (x, y)) (List.getElem?_zip_eq_some.2 ⟨hx, hy⟩), sumP_snoc, hS2, hS1, hp]
      have Hp := Lib.hid hp
      have HS2 := Lib.hid hS2
      have Hs1 : Hid (Sz S1 100000) := by rw [Hid, hS1]; exact Hz40.out k
      have Hsx0 : Hid (Sz x 1024) := Hsa.out x (List.mem_of_getElem? hx)
      have Hsy0 : Hid (Sz y 1024) := Hsb.out y (List.mem_of_getElem? hy)
      have Hsx : Hid (Sz x 100000) := Hsx0.out.le (by omega)
      have Hsy : Hid (Sz y 100000) := Hsy0.out.le (by omega)
      have Hsp : Hid (Sz p 100000) := by rw [Hid, hp]; exact (Hsx0.out.mul Hsy0.out).le (by omega)
      have cr := ratCells
      have hnn := hbw.size
      have hnr := RSw.out.lt
      have Qx_0 := Lib.hid (IsQ.stb.to (isR_isQ helx) (same_old hbw))
      have Qy_0 := Lib.hid (IsQ.stb.to (isR_isQ hely) (same_old hbw))
      have V_0 := Lib.hid (Hsq.out)
      have Rs_0 := Lib.hid (RSw.out)
      have Zr_0 := Lib.hid (RZw.out)
      have bW_0 := Lib.hid (Below.refl wr.heap.size wr)
      have sz_0 := Lib.hid (Nat.le_refl wr.heap.size)
      clear hx hy hrx hry helx hely hx0 hx1 hx2 hy0 hy1 hy2 hp hS1 hS2 HV1 RZ1 c0 c1 c2 d0 d1 d2 RSw RZw Hsq Hsx0 Hsy0 hbw Hs
      obtain ⟨cRs0_1, cRs1_1, cRs2_1⟩ := cells3 Rs_0.out
      obtain ⟨fRs0_1, fRs1_1, fRs2_1⟩ := free3 Rs_0.out
      go_wp2_with fail
      have Qx_1 := Lib.hid (IsQ.stb.next Qx_0.out (below_drew _))
      have Qy_1 := Lib.hid (IsQ.stb.next Qy_0.out (below_drew _))
      have V_1 := Lib.hid (IsQ.stb.next V_0.out (below_drew _))
      have Rs_1 := Lib.hid (Row.next Rs_0.out (below_drew _))
      have Zr_1 := Lib.hid (Row.next Zr_0.out (below_drew _))
      have bW_1 := Lib.hid (below_step bW_0.out (below_drew _))
      have sz_1 := Lib.hid (size_step sz_0.out (below_drew _))
      clear Qx_0 Qy_0 V_0 Rs_0 Zr_0 bW_0 sz_0
      clear cRs0_1 cRs1_1 cRs2_1 fRs0_1 fRs1_1 fRs2_1
      obtain ⟨cRs0_2, cRs1_2, cRs2_2⟩ := cells3 Rs_1.out
      obtain ⟨fRs0_2, fRs1_2, fRs2_2⟩ := free3 Rs_1.out
      go_region_with (first
          | (go_at_call 43; have hc := rmulq Qx_1.out Qy_1.out Hsx.out Hsy.out Hp.out; (with_reducible refine hc.mono ?_); clear hc; rintro e w3 ⟨⟨v3, rfl, hv3⟩, hb⟩; have newP := Lib.hid (IsQ.stb.old hv3); have Qx_2 := Lib.hid (IsQ.stb.next Qx_1.out (hb)); have Qy_2 := Lib.hid (IsQ.stb.next Qy_1.out (hb)); have V_2 := Lib.hid (IsQ.stb.next V_1.out (hb)); have Rs_2 := Lib.hid (Row.next Rs_1.out (hb)); have Zr_2 := Lib.hid (Row.next Zr_1.out (hb)); have bW_2 := Lib.hid (below_step bW_1.out (hb)); have sz_2 := Lib.hid (size_step sz_1.out (hb)); clear Qx_1 Qy_1 V_1 Rs_1 Zr_1 bW_1 sz_1; have P_0 := newP; clear newP; obtain ⟨s3, P3, k3, O3, l3, rfl, _, _, _⟩ := isQ_open hv3; have e0_3 := keep_cell (hb) e0; have e1_4 := keep_cell (hb) e1; have e2_5 := keep_cell (hb) e2; have f0_6 := keep_cell (hb) f0; have f1_7 := keep_cell (hb) f1; have f2_8 := keep_cell (hb) f2; clear cRs0_2 cRs1_2 cRs2_2 fRs0_2 fRs1_2 fRs2_2 e0 e1 e2 f0 f1 f2; obtain ⟨cRs0_9, cRs1_9, cRs2_9⟩ := cells3 Rs_2.out; obtain ⟨fRs0_9, fRs1_9, fRs2_9⟩ := free3 Rs_2.out)
          | (go_at_call 42; have hc := raddq V_2.out P_0.out Hs1.out Hsp.out HS2.out; (with_reducible refine hc.mono ?_); clear hc; rintro e w4 ⟨⟨v4, rfl, hv4⟩, hb⟩; have newU := Lib.hid (IsQ.stb.le hv4 sz_2.out); have Qx_3 := Lib.hid (IsQ.stb.next Qx_2.out (hb)); have Qy_3 := Lib.hid (IsQ.stb.next Qy_2.out (hb)); have V_3 := Lib.hid (IsQ.stb.next V_2.out (hb)); have Rs_3 := Lib.hid (Row.next Rs_2.out (hb)); have Zr_3 := Lib.hid (Row.next Zr_2.out (hb)); have bW_3 := Lib.hid (below_step bW_2.out (hb)); have sz_3 := Lib.hid (size_step sz_2.out (hb)); have P_1 := Lib.hid (IsQ.stb.next P_0.out (hb)); clear Qx_2 Qy_2 V_2 Rs_2 Zr_2 bW_2 sz_2 P_0; have U_0 := newU; clear newU; obtain ⟨s4, P4, k4, O4, l4, rfl, _, _, _⟩ := isQ_open hv4; have e0_10 := keep_cell (hb) e0_3; have e1_11 := keep_cell (hb) e1_4; have e2_12 := keep_cell (hb) e2_5; have f0_13 := keep_cell (hb) f0_6; have f1_14 := keep_cell (hb) f1_7; have f2_15 := keep_cell (hb) f2_8; clear cRs0_9 cRs1_9 cRs2_9 fRs0_9 fRs1_9 fRs2_9 e0_3 e1_4 e2_5 f0_6 f1_7 f2_8; obtain ⟨cRs0_16, cRs1_16, cRs2_16⟩ := cells3 Rs_3.out; obtain ⟨fRs0_16, fRs1_16, fRs2_16⟩ := free3 Rs_3.out))
      all_goals
        go_wp2_with fail
        have hbE := below_put3 (g := w1.heap.size) (below_step HBw.out bW_3.out) (by omega)
        go_roundw
        case rel =>
          refine ⟨k + 1, _, _, _, by omega, by go_num, hbE _ _ _, Row.far3 Zr_3.out (by omega) _ _ _, Row.put3 Rs_3.out _ _ _, ?_⟩
          rw [← Hend.out]
          have hz := bW_3.out.size
          exact IsQ.stb.to U_0.out (same_put3 fun x hx => ⟨by have := hx.1; omega, ⟨⟨by have := hx.1; omega, by rw [size_put3]; exact hx.2⟩, by have := hx.1; omega⟩⟩)
        case measure => simp [intOf]; omega
    · obtain rfl : k = M := by omega
      have e : (a.zip b).take k = a.zip b := List.take_of_length_le (by rw [List.length_zip, Hla.out, Hlb.out]; omega)
      have hnn := hbw.size
      rw [e] at Hs RSw
      obtain ⟨s0, s1, s2⟩ := cells3 RSw.out
      obtain ⟨z0, z1, z2⟩ := cells3 RZw.out
      obtain ⟨fz0, fz1, fz2⟩ := free3 RZw.out
      clear hbw e
      go_wp2_with fail
      refine ret_rat Tryz.results62 rfl rfl (Row.put3 RZw.out _ _ _) ?_
      exact ⟨⟨_, rfl, IsQ.stb.to Hs.out (same_put3 fun b hb => ⟨by have := hb.1.1; omega, by have := hb.1.1; omega, by rw [size_put3]; exact hb.1.2⟩)⟩, below_put3 HBw.out (Nat.le_refl _) _ _ _⟩
end Go.Proofs.YtblpaocignlpkaaGreatDoor
/-
  Contracts of the reference for layer 5: rest, feasible.
-/
namespace Go.Proofs.YtblpaocignlpkaaGreatDoor
open Go.RowKit
set_option linter.unusedVariables false

/-- B less A*x fits, and so do its elements. -/
theorem rest_sz {row x : List Rat} {b : Rat} (hr : ∀ q ∈ row, Sz q 1024) (hx : ∀ q ∈ x, Sz q 1024) (hb : Sz b 1024) (hl : row.length ≤ 40) : Sz (dotQ row x) 100000 := dotQ_sz2 hr hx hl

set_option maxRecDepth 100000 in
set_option maxHeartbeats 4000000 in
theorem rrest_l {w : World} {vp vx : Value} {A : List (List Rat)} {B x : List Rat} {CC : List Raw} (hp : IsP w (Old w) vp ⟨rawM A, rawV B, CC⟩) (hx : IsV w (Old w) vx (rawV x)) (hA : A.length = B.length) (hrow : ∀ row ∈ A, row.length = x.length)
    (szA : ∀ row ∈ A, ∀ q ∈ row, Sz q 1024) (szB : ∀ q ∈ B, Sz q 1024) (szx : ∀ q ∈ x, Sz q 1024) (hn : x.length ≤ 40) (hm : B.length ≤ 40) :
    Calls Tryz.prog 67 #[vp, vx] w fun e w' => (∃ v', e = .returned v' ∧ IsV w' (Old w') v' (rawV (restQ A B x))) ∧ Below w.heap.size w w' := by
  have HX := Lib.hid hx
  have HAB := Lib.hid hA
  have Hrow := Lib.hid hrow
  have HsA := Lib.hid szA
  have HsB := Lib.hid szB
  have Hsx := Lib.hid szx
  have Hn := Lib.hid hn
  obtain ⟨PA, cA, PB, cB, PC, cC, rfl, hM, hBv, _⟩ := hp
  obtain ⟨PX, cX, rfl, _⟩ := isV_len hx
  simp only [rawV_len, rawM_len] at hM hBv HX ⊢
  obtain ⟨M, hMM⟩ : ∃ m, m = B.length := ⟨_, rfl⟩
  have HM := Lib.hid hM
  have HBv := Lib.hid hBv
  rw [← hMM] at hm HBv
  rw [hA, ← hMM] at HM
  have HMM := Lib.hid hMM
  have hx40 : x.length ≤ 9223372036854775807 := by omega
  rw [hA, ← hMM]
  clear hx hA hrow szA szB szx hn hM hBv hMM
  obtain ⟨w0, hw0, hb0, rP, Hz⟩ := boxes1 w #[.slice PA M cA, .slice PB M cB, .slice PC CC.length cC] 27
  have HB0 := Lib.hid hb0
  obtain ⟨cP0, cP1, cP2⟩ := cells3 rP
  have CP := Lib.hid (cells3 rP)
  clear rP hb0
  go_enter Tryz.func67, Tryz.ntmps67
  go_wp2_with fail
  clear hw0 cP0 cP1 cP2
  go_loopw [5, 6] (fun v i wr => ∃ (k : Nat) (S : Nat → Prop), k ≤ M ∧ i = .int .i64 (k : Int) ∧ Below w0.heap.size w0 wr ∧ OwnS 3 31 IsR wr w0.heap.size S v (rawV ((restQ A B x).take k)) ∧ Hid (∀ b, b < w0.heap.size → S b)) (fun _ i _ => M - (intOf i).toNat)
  case atStart => exact ⟨0, Old w0, Nat.zero_le _, rfl, Below.refl _ _, by simpa [rawV] using (OwnS.nil (fun b h => h) : OwnS 3 31 IsR w0 w0.heap.size (Old w0) _ _), fun _ h => h⟩
  case round =>
    obtain ⟨k, S, hk, rfl, hbw, hown, hS⟩ := hrel
    have Hbw := Lib.hid hbw
    have HS0 := Lib.hid hS.out
    have cP0 := keep_cell hbw CP.out.1
    have cP1 := keep_cell hbw CP.out.2.1
    have hszw := hbw.size
    clear hS
    rcases Nat.lt_or_ge k M with hlt | hge
    · obtain ⟨b, hb, hrb⟩ := rawV_get (l := B) (j := k) (by rw [← HMM.out]; exact hlt)
      obtain ⟨row, hr, hrr⟩ := rawM_get (m := A) (j := k) (by rw [HAB.out, ← HMM.out]; exact hlt)
      obtain ⟨b1, o1, X1, X2, X3, X4, rfl, hSb1, helb, c0, c1, c2⟩ := isV_get HBv.out hrb
      obtain ⟨b2, o2, Y1, Y2, rfl, hSb2, helr, d0⟩ := isM_get HM.out hrr
      obtain ⟨x0, hx0⟩ : ∃ s, s = (raw b).neg := ⟨_, rfl⟩
      obtain ⟨x1, hx1⟩ : ∃ s, s = (raw b).num.length := ⟨_, rfl⟩
      obtain ⟨x2, hx2⟩ : ∃ s, s = (raw b).den.length := ⟨_, rfl⟩
      have er : (rawV row).length = x.length := (rawV_len row).trans (Hrow.out row (List.mem_of_getElem? hr))
      rw [er] at d0 helr
      rw [← hx0] at c0
      rw [← hx1] at c1
      rw [← hx2] at c2
      rw [← hx0, ← hx1, ← hx2] at helb
      have hSb1' : b1 < w.heap.size := hSb1
      have hSb2' : b2 < w.heap.size := hSb2
      have hb0w := HB0.out
      have e0 := hb0w.cell (p := ⟨b1, o1 + k * 3, none⟩) hSb1 |>.trans c0
      have e1 := hb0w.cell (p := ⟨b1, o1 + k * 3 + 1, none⟩) hSb1 |>.trans c1
      have e2 := hb0w.cell (p := ⟨b1, o1 + k * 3 + 2, none⟩) hSb1 |>.trans c2
      have e3 := hb0w.cell (p := ⟨b2, o2 + k, none⟩) hSb2 |>.trans d0
      have E := Lib.hid (And.intro e0 (And.intro e1 (And.intro e2 e3)))
      have QB := Lib.hid (IsQ.stb.to (isR_isQ helb) (same_old hb0w))
      have QR := Lib.hid (IsV.stb.to helr (same_old hb0w))
      have QX := Lib.hid (IsV.stb.to HX.out (same_old hb0w))
      obtain ⟨d, hd⟩ : ∃ d, d = dotQ row x := ⟨_, rfl⟩
      obtain ⟨nd, hnd⟩ : ∃ d', d' = -d := ⟨_, rfl⟩
      obtain ⟨r, hr2⟩ : ∃ r, r = b + nd := ⟨_, rfl⟩
      have Hd := Lib.hid hd
      have Hnd := Lib.hid hnd
      have Hr2 := Lib.hid hr2
      have Hrl : Hid (row.length = x.length) := Hrow.out row (List.mem_of_getElem? hr)
      have Hsr : Hid (∀ q ∈ row, Sz q 1024) := HsA.out row (List.mem_of_getElem? hr)
      have Hsb : Hid (Sz b 100000) := (HsB.out b (List.mem_of_getElem? hb)).le (by omega)
      have Hsn : Hid (Sz nd 100000) := by rw [Hid, hnd, hd]; exact (dotQ_sz2 Hsr.out Hsx.out (by rw [Hrl.out]; exact Hn.out)).neg
      have Hend : Hid ((restQ A B x).take (k + 1) = (restQ A B x).take k ++ [r]) := by
        rw [Hid, restQ_take hr hb, hr2, hnd, hd, Rat.sub_eq_add_neg]
      have Hown := Lib.hid hown
      have cr := ratCells
      have e0 := keep_cell hbw e0
      have e1 := keep_cell hbw e1
      have e2 := keep_cell hbw e2
      have e3 := keep_cell hbw e3
      clear hb hr hrb hrr helb helr hx0 hx1 hx2 c0 c1 c2 d0 hd hnd hr2 hb0w hown er
      have hbase : w.heap.size ≤ w0.heap.size := HB0.out.size
      have hk0 : (0 : Int) ≤ (k : Int) := by omega
      have hk1 : (k : Int) < (M : Int) := by omega
      go_wp2_with fail
      have HS : Hid (∀ W : World, Below w0.heap.size w0 W → W.cell? ⟨w.heap.size, 0, none⟩ = some (.slice (some ⟨b2, o2, none⟩) M cA) ∧ W.cell? ⟨w.heap.size, 1, none⟩ = some (.slice (some ⟨b1, o1, none⟩) M cB) ∧ W.cell? ⟨b1, o1 + k * 3, none⟩ = some (.bool x0) ∧ W.cell? ⟨b1, o1 + k * 3 + 1, none⟩ = some (.slice X1 x1 X2) ∧ W.cell? ⟨b1, o1 + k * 3 + 2, none⟩ = some (.slice X3 x2 X4) ∧ W.cell? ⟨b2, o2 + k, none⟩ = some (.slice Y1 x.length Y2)) := fun W hW => ⟨keep_cell hW CP.out.1, keep_cell hW CP.out.2.1, keep_cell hW E.out.1, keep_cell hW E.out.2.1, keep_cell hW E.out.2.2.1, keep_cell hW E.out.2.2.2⟩
      have D3 : Hid (∀ W : World, Below w0.heap.size w0 W → Calls Tryz.prog 62 #[.slice Y1 x.length Y2, .slice PX x.length cX] W (RetQ W d)) := fun W hW => by rw [Hd.out]; exact product_q (M := x.length) (IsV.stb.next QR.out hW) (IsV.stb.next QX.out hW) Hrl.out rfl Hn.out Hsr.out Hsx.out
      go_region_held3 (fun w' => w'.cell? ⟨w.heap.size, 0, none⟩ = some (.slice (some ⟨b2, o2, none⟩) M cA) ∧ w'.cell? ⟨w.heap.size, 1, none⟩ = some (.slice (some ⟨b1, o1, none⟩) M cB) ∧ w'.cell? ⟨b1, o1 + k * 3, none⟩ = some (.bool x0) ∧ w'.cell? ⟨b1, o1 + k * 3 + 1, none⟩ = some (.slice X1 x1 X2) ∧ w'.cell? ⟨b1, o1 + k * 3 + 2, none⟩ = some (.slice X3 x2 X4) ∧ w'.cell? ⟨b2, o2 + k, none⟩ = some (.slice Y1 x.length Y2))
        (exact HS.out _ (by (repeat (first | exact Below.refl _ _ | assumption | refine below_allocR ?_ _ | refine below_drewR ?_ | refine below_put3X ?_ ?_ _ _ _ | refine below_step ?_ (by assumption))); (first | done | fail)))
        (first
          | (go_at_call 62; (with_reducible refine Calls.mono (D3.out _ (by (repeat (first | exact Below.refl _ _ | assumption | refine below_allocR ?_ _ | refine below_drewR ?_ | refine below_put3X ?_ ?_ _ _ _ | refine below_step ?_ (by assumption))); (first | done | fail))) ?_); rintro e w3 ⟨⟨v3, rfl, hv3⟩, hb3⟩; have V3 := Lib.hid (IsQ.stb.old hv3); obtain ⟨s3, P3, k3, O3, l3, rfl, _, _, _⟩ := isQ_open hv3; have D4 : Hid (∀ W : World, Below w3.heap.size w3 W → Calls Tryz.prog 63 #[.agg #[.bool s3, .slice P3 (lim d.num.natAbs).length k3, .slice O3 (lim d.den).length l3]] W (RetS (Old W) W nd)) := fun W hW => rneg_s (IsQ.stb.next V3.out hW) (fun b h => h) Hnd.out)
          | (go_at_call 63; (with_reducible refine Calls.mono (D4.out _ (by (repeat (first | exact Below.refl _ _ | assumption | refine below_allocR ?_ _ | refine below_drewR ?_ | refine below_put3X ?_ ?_ _ _ _ | refine below_step ?_ (by assumption))); (first | done | fail))) ?_); rintro e w4 ⟨⟨v4, rfl, hv4⟩, hb4⟩; have V4 := Lib.hid (isQ_oldW hv4 hb4); obtain ⟨s4, P4, k4, O4, l4, rfl, _, _, _⟩ := isQ_open hv4; have D5 : Hid (∀ W : World, Below w4.heap.size w4 W → Calls Tryz.prog 42 #[.agg #[.bool x0, .slice X1 x1 X2, .slice X3 x2 X4], .agg #[.bool s4, .slice P4 (lim nd.num.natAbs).length k4, .slice O4 (lim nd.den).length l4]] W (RetQ W r)) := fun W hW => raddq (IsQ.stb.next QB.out (by (repeat (first | exact Below.refl _ _ | assumption | refine below_allocR ?_ _ | refine below_drewR ?_ | refine below_put3X ?_ ?_ _ _ _ | refine below_step ?_ (by assumption))); (first | done | fail))) (IsQ.stb.next V4.out (by (repeat (first | exact Below.refl _ _ | assumption | refine below_allocR ?_ _ | refine below_drewR ?_ | refine below_put3X ?_ ?_ _ _ _ | refine below_step ?_ (by assumption))); (first | done | fail))) Hsb.out Hsn.out Hr2.out)
          | (go_at_call 42; (with_reducible refine Calls.mono (D5.out _ (by (repeat (first | exact Below.refl _ _ | assumption | refine below_allocR ?_ _ | refine below_drewR ?_ | refine below_put3X ?_ ?_ _ _ _ | refine below_step ?_ (by assumption))); (first | done | fail))) ?_); rintro e w5 ⟨⟨v5, rfl, hv5⟩, hb5⟩; have V5 := Lib.hid (IsQ.stb.old hv5); obtain ⟨s5, P5, k5, O5, l5, rfl, _, _, _⟩ := isQ_open hv5; have hB5 : Below wr.heap.size wr w5 := (by (repeat (first | exact Below.refl _ _ | assumption | refine below_allocR ?_ _ | refine below_drewR ?_ | refine below_put3X ?_ ?_ _ _ _ | refine below_step ?_ (by assumption))); (first | done | fail)); have HO := Lib.hid (OwnS.step IsR.stb (T := (fun b => S b ∨ (wr.heap.size ≤ b ∧ b < w5.heap.size))) Hown.out hB5 (fun b h => .inl h) (fun b h => h)); have HE := Lib.hid (IsQ.stb.to hv5 (same_imp (T := (fun b => S b ∨ (wr.heap.size ≤ b ∧ b < w5.heap.size))) fun b h => .inr ⟨Nat.le_trans (Below.size (w := wr) (by (repeat (first | exact Below.refl _ _ | assumption | refine below_allocR ?_ _ | refine below_drewR ?_ | refine below_put3X ?_ ?_ _ _ _ | refine below_step ?_ (by assumption))); (first | done | fail))) h.1, h.2⟩)); have hb5w : w0.heap.size ≤ w5.heap.size := Nat.le_trans hszw hB5.size)
          | (refine step_appS elR rfl _ _ rfl IsR.stb rfl rfl rfl HO.out HE.out rfl (by intro u hu; simp [Value.cells] at hu; rcases hu with rfl | rfl | rfl <;> rfl) (by have h1 := List.length_take_le k (restQ A B x); rw [rawV_len]; omega) hb5w ?_; intro v6 w6 hown6 hb6 hz6; have hB6 : Below w0.heap.size w0 w6 := Below.trans (by (repeat (first | exact Below.refl _ _ | assumption | refine below_allocR ?_ _ | refine below_drewR ?_ | refine below_put3X ?_ ?_ _ _ _ | refine below_step ?_ (by assumption))); (first | done | fail)) hb6))
      go_wp2_with fail
      go_roundw
      case rel =>
        refine ⟨k + 1, (fun b => S b ∨ (wr.heap.size ≤ b ∧ b < w5.heap.size)), by omega, by go_num, hB6, ?_, fun b hb => .inl (HS0.out b hb)⟩
        rw [Hend.out, rawV, List.map_append]
        exact hown6
      case measure => simp [intOf]; omega
    · obtain rfl : k = M := by omega
      have e : (restQ A B x).take k = restQ A B x := List.take_of_length_le (by rw [restQ_len HAB.out, ← HMM.out]; exact Nat.le_refl _)
      rw [e] at hown
      have Hown := Lib.hid hown
      have hbase : w.heap.size ≤ w0.heap.size := HB0.out.size
      clear hown e
      go_wp2_with fail
      go_ret
      exact ⟨⟨_, rfl, OwnS.isS IsR.stb (T := Old wr) Hown.out (fun b hb => by obtain ⟨_, _, _, _, h4⟩ := Hown.out; exact (h4 b hb).1) (fun b h1 h2 => h2)⟩, below_step HB0.out Hbw.out⟩

set_option maxRecDepth 100000 in
set_option maxHeartbeats 1000000 in
theorem rfeas_l {w : World} {vp vx : Value} {A : List (List Rat)} {B x : List Rat} {CC : List Raw} (hp : IsP w (Old w) vp ⟨rawM A, rawV B, CC⟩) (hx : IsV w (Old w) vx (rawV x)) (hA : A.length = B.length) (hrow : ∀ row ∈ A, row.length = x.length)
    (szA : ∀ row ∈ A, ∀ q ∈ row, Sz q 1024) (szB : ∀ q ∈ B, Sz q 1024) (szx : ∀ q ∈ x, Sz q 1024) (hn : x.length ≤ 40) (hm : B.length ≤ 40) :
    Calls Tryz.prog 77 #[vp, vx] w fun e w' => e = .returned (.bool (leastB x && leastB (restQ A B x))) ∧ Below w.heap.size w w' := by
  have HP := Lib.hid hp
  have HX := Lib.hid hx
  have HR : Hid (∀ W : World, Below w.heap.size w W → Calls Tryz.prog 67 #[vp, vx] W fun e w' => (∃ v', e = .returned v' ∧ IsV w' (Old w') v' (rawV (restQ A B x))) ∧ Below W.heap.size W w') :=
    fun W hW => rrest_l (IsP.stb.to hp (same_old hW)) (IsV.stb.to hx (same_old hW)) hA hrow szA szB szx hn hm
  obtain ⟨PA, cA, PB, cB, PC, cC, rfl, _⟩ := hp
  obtain ⟨PX, cX, rfl, _⟩ := isV_len hx
  clear hx hA hrow szA szB szx hn hm
  obtain ⟨w0, hw0, hb0, rP, Hz⟩ := boxes1 w #[.slice PA (rawM A).length cA, .slice PB (rawV B).length cB, .slice PC CC.length cC] 27
  have HB0 := Lib.hid hb0
  have RP := Lib.hid rP
  obtain ⟨cP0, cP1, cP2⟩ := cells3 rP
  obtain ⟨g1, hg1⟩ : ∃ b, b = leastB x := ⟨_, rfl⟩
  have Hg1 := Lib.hid hg1
  obtain ⟨g2, hg2⟩ : ∃ b, b = leastB (restQ A B x) := ⟨_, rfl⟩
  have Hg2 := Lib.hid hg2
  rw [← hg1, ← hg2]
  clear rP hb0 hg1 hg2
  cases g1
  case false =>
    go_enter Tryz.func77, Tryz.ntmps77
    go_wp2_with fail
    clear hw0
    refine (rleast_l (IsV.stb.to HX.out (same_old HB0.out))).mono ?_
    rw [show (!anyNeg (rawV x)) = false from Hg1.out.symm]
    rintro e w1 ⟨rfl, hb⟩
    go_wp2_with fail
    go_ret
    exact ⟨rfl, below_step HB0.out hb⟩
  case true =>
    go_enter Tryz.func77, Tryz.ntmps77
    go_wp2_with fail
    clear hw0
    refine (rleast_l (IsV.stb.to HX.out (same_old HB0.out))).mono ?_
    rw [show (!anyNeg (rawV x)) = true from Hg1.out.symm]
    rintro e w1 ⟨rfl, hb⟩
    have Hb1 := Lib.hid (below_step HB0.out hb)
    clear cP0 cP1 cP2
    obtain ⟨cP0, cP1, cP2⟩ := cells3 (RP.out.next hb)
    clear hb
    go_wp2_with fail
    refine (HR.out _ Hb1.out).mono ?_
    rintro e w2 ⟨⟨v2, rfl, hv2⟩, hb⟩
    have Hb2 := Lib.hid (below_step Hb1.out hb)
    have HV2 := Lib.hid hv2
    obtain ⟨P2, c2, rfl, _⟩ := isV_len hv2
    clear hb hv2
    go_wp2_with fail
    refine (rleast_l HV2.out).mono ?_
    rintro e w3 ⟨rfl, hb⟩
    rw [show (!anyNeg (rawV (restQ A B x))) = g2 from Hg2.out.symm]
    go_wp2_with fail
    go_ret
    exact ⟨rfl, below_step Hb2.out hb⟩
end Go.Proofs.YtblpaocignlpkaaGreatDoor
