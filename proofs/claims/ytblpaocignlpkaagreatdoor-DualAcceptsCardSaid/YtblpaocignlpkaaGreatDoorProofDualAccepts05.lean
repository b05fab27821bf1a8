/-
  Contracts of the reference's check of a program.
-/
import Derived.Test.YtblpaocignlpkaaGreatDoorCore07
import Derived.Test.YtblpaocignlpkaaGreatDoorProofDualAccepts04
import Derived.Test.YtblpaocignlpkaaGreatDoorProofDualAccepts03
import Derived.Test.YtblpaocignlpkaaGreatDoorCore12
namespace Go.Proofs.YtblpaocignlpkaaGreatDoor
open Go.RowKit
set_option linter.unusedVariables false
set_option maxRecDepth 100000 in
set_option maxHeartbeats 8000000 in
theorem rpcheck {w : World} {v : Value} {p : Prog} (h : IsP w (Old w) v p) : Calls Tryz.prog 54 #[v] w fun e w' => e = .returned (.int .i64 (chkP p)) ∧ Below w.heap.size w w' := by
  obtain ⟨A, a, B, b, C, c, rfl, hA, hB', hC⟩ := h
  have lA := (zdo hA).choose_spec.choose_spec.2
  have lB := (zau hB').choose_spec.choose_spec.2
  have lC := (zau hC).choose_spec.choose_spec.2
  obtain ⟨w0, hw0, hb0, rP, Hz⟩ := zbm w #[.slice A p.A.length a, .slice B p.B.length b, .slice C p.C.length c] 27
  have A_0 := Lib.hid (IsM.stb.next hA hb0)
  have B_0 := Lib.hid (IsV.stb.next hB' hb0)
  have C_0 := Lib.hid (IsV.stb.next hC hb0)
  have R_0 := Lib.hid (rP)
  have bw_0 := Lib.hid (hb0)
  clear hA hB' hC rP hb0
  obtain ⟨cR0_1, cR1_1, cR2_1⟩ := zad R_0.out
  obtain ⟨x, hx⟩ : ∃ x, x = chkM p.A := ⟨_, rfl⟩
  obtain ⟨y, hy⟩ : ∃ y, y = chkV p.B := ⟨_, rfl⟩
  obtain ⟨z, hz⟩ : ∃ z, z = chkV p.C := ⟨_, rfl⟩
  obtain ⟨u, hu⟩ : ∃ u, u = chkF p := ⟨_, rfl⟩
  have Hr : Hid (chkP p = if fstE [x, y, z] ≠ 0 then fstE [x, y, z] else u) := by rw [Hid, hx, hy, hz, hu]; rfl
  have Hx := Lib.hid hx
  have Hy := Lib.hid hy
  have Hz2 := Lib.hid hz
  have Hu := Lib.hid hu
  clear hx hy hz hu
  by_cases hx : x = 0
  case neg =>
    have ex : (x != 0) = true := bne_iff_ne.2 hx
    have Hfin : Hid (chkP p = x) := by rw [Hid, Hr.out]; simp [fstE, hx]
    clear hx
    go_enter Tryz.func54, Tryz.ntmps54
    go_wp2_with fail
    clear hw0
    refine ((show Calls Tryz.prog 109 #[.slice A p.A.length a] w0 (fun e w' => e = .returned (.int .i64 x) ∧ Below (World.heap w0).size w0 w') from by rw [Hx.out]; exact rform_l A_0.out)).mono ?_
    rintro e w1 ⟨rfl, hb⟩
    have A_1 := Lib.hid (IsM.stb.next A_0.out (hb))
    have B_1 := Lib.hid (IsV.stb.next B_0.out (hb))
    have C_1 := Lib.hid (IsV.stb.next C_0.out (hb))
    have R_1 := Lib.hid (Row.next R_0.out (hb))
    have bw_1 := Lib.hid (zaa bw_0.out (hb))
    clear A_0 B_0 C_0 R_0 bw_0
    clear cR0_1 cR1_1 cR2_1
    obtain ⟨cR0_2, cR1_2, cR2_2⟩ := zad R_1.out
    go_wp2_with fail
    go_ret
    exact ⟨zar Hfin.out.symm, bw_1.out⟩
  have ex : (x != 0) = false := by rw [hx]; rfl
  have zx := Lib.hid hx
  clear hx
  by_cases hy : y = 0
  case neg =>
    have ey : (y != 0) = true := bne_iff_ne.2 hy
    have Hfin : Hid (chkP p = y) := by rw [Hid, Hr.out, zx.out]; simp [fstE, hy]
    clear hy
    go_enter Tryz.func54, Tryz.ntmps54
    go_wp2_with fail
    clear hw0
    refine ((show Calls Tryz.prog 109 #[.slice A p.A.length a] w0 (fun e w' => e = .returned (.int .i64 x) ∧ Below (World.heap w0).size w0 w') from by rw [Hx.out]; exact rform_l A_0.out)).mono ?_
    rintro e w1 ⟨rfl, hb⟩
    have A_1 := Lib.hid (IsM.stb.next A_0.out (hb))
    have B_1 := Lib.hid (IsV.stb.next B_0.out (hb))
    have C_1 := Lib.hid (IsV.stb.next C_0.out (hb))
    have R_1 := Lib.hid (Row.next R_0.out (hb))
    have bw_1 := Lib.hid (zaa bw_0.out (hb))
    clear A_0 B_0 C_0 R_0 bw_0
    clear cR0_1 cR1_1 cR2_1
    obtain ⟨cR0_2, cR1_2, cR2_2⟩ := zad R_1.out
    go_wp2_with fail
    refine ((show Calls Tryz.prog 34 #[.slice B p.B.length b] w1 (fun e w' => e = .returned (.int .i64 y) ∧ Below (World.heap w1).size w1 w') from by rw [Hy.out]; exact zcf B_1.out)).mono ?_
    rintro e w2 ⟨rfl, hb⟩
    have A_2 := Lib.hid (IsM.stb.next A_1.out (hb))
    have B_2 := Lib.hid (IsV.stb.next B_1.out (hb))
    have C_2 := Lib.hid (IsV.stb.next C_1.out (hb))
    have R_2 := Lib.hid (Row.next R_1.out (hb))
    have bw_2 := Lib.hid (zaa bw_1.out (hb))
    clear A_1 B_1 C_1 R_1 bw_1
    clear cR0_2 cR1_2 cR2_2
    obtain ⟨cR0_3, cR1_3, cR2_3⟩ := zad R_2.out
    go_wp2_with fail
    go_ret
    exact ⟨zar Hfin.out.symm, bw_2.out⟩
  have ey : (y != 0) = false := by rw [hy]; rfl
  have zy := Lib.hid hy
  clear hy
  by_cases hz : z = 0
  case neg =>
    have ez : (z != 0) = true := bne_iff_ne.2 hz
    have Hfin : Hid (chkP p = z) := by rw [Hid, Hr.out, zx.out, zy.out]; simp [fstE, hz]
    clear hz
    go_enter Tryz.func54, Tryz.ntmps54
    go_wp2_with fail
    clear hw0
    refine ((show Calls Tryz.prog 109 #[.slice A p.A.length a] w0 (fun e w' => e = .returned (.int .i64 x) ∧ Below (World.heap w0).size w0 w') from by rw [Hx.out]; exact rform_l A_0.out)).mono ?_
    rintro e w1 ⟨rfl, hb⟩
    have A_1 := Lib.hid (IsM.stb.next A_0.out (hb))
    have B_1 := Lib.hid (IsV.stb.next B_0.out (hb))
    have C_1 := Lib.hid (IsV.stb.next C_0.out (hb))
    have R_1 := Lib.hid (Row.next R_0.out (hb))
    have bw_1 := Lib.hid (zaa bw_0.out (hb))
    clear A_0 B_0 C_0 R_0 bw_0
    clear cR0_1 cR1_1 cR2_1
    obtain ⟨cR0_2, cR1_2, cR2_2⟩ := zad R_1.out
    go_wp2_with fail
    refine ((show Calls Tryz.prog 34 #[.slice B p.B.length b] w1 (fun e w' => e = .returned (.int .i64 y) ∧ Below (World.heap w1).size w1 w') from by rw [Hy.out]; exact zcf B_1.out)).mono ?_
    rintro e w2 ⟨rfl, hb⟩
    have A_2 := Lib.hid (IsM.stb.next A_1.out (hb))
    have B_2 := Lib.hid (IsV.stb.next B_1.out (hb))
    have C_2 := Lib.hid (IsV.stb.next C_1.out (hb))
    have R_2 := Lib.hid (Row.next R_1.out (hb))
    have bw_2 := Lib.hid (zaa bw_1.out (hb))
    clear A_1 B_1 C_1 R_1 bw_1
    clear cR0_2 cR1_2 cR2_2
    obtain ⟨cR0_3, cR1_3, cR2_3⟩ := zad R_2.out
    go_wp2_with fail
    refine ((show Calls Tryz.prog 34 #[.slice C p.C.length c] w2 (fun e w' => e = .returned (.int .i64 z) ∧ Below (World.heap w2).size w2 w') from by rw [Hz2.out]; exact zcf C_2.out)).mono ?_
    rintro e w3 ⟨rfl, hb⟩
    have A_3 := Lib.hid (IsM.stb.next A_2.out (hb))
    have B_3 := Lib.hid (IsV.stb.next B_2.out (hb))
    have C_3 := Lib.hid (IsV.stb.next C_2.out (hb))
    have R_3 := Lib.hid (Row.next R_2.out (hb))
    have bw_3 := Lib.hid (zaa bw_2.out (hb))
    clear A_2 B_2 C_2 R_2 bw_2
    clear cR0_3 cR1_3 cR2_3
    obtain ⟨cR0_4, cR1_4, cR2_4⟩ := zad R_3.out
    go_wp2_with fail
    go_ret
    exact ⟨zar Hfin.out.symm, bw_3.out⟩
  have ez : (z != 0) = false := by rw [hz]; rfl
  have zz := Lib.hid hz
  clear hz
  have Hfin : Hid (chkP p = u) := by rw [Hid, Hr.out, zx.out, zy.out, zz.out]; simp [fstE]
  by_cases h1 : p.A.length = p.B.length
  case neg =>
    have Hu2 : Hid (u = 10) := by rw [Hid, Hu.out]; unfold chkF fitE; exact if_pos (.inl h1)
    have e1 : ((p.A.length : Int) != (p.B.length : Int)) = true := bne_iff_ne.2 (by omega)
    clear h1
    go_enter Tryz.func54, Tryz.ntmps54
    go_wp2_with fail
    clear hw0
    refine ((show Calls Tryz.prog 109 #[.slice A p.A.length a] w0 (fun e w' => e = .returned (.int .i64 x) ∧ Below (World.heap w0).size w0 w') from by rw [Hx.out]; exact rform_l A_0.out)).mono ?_
    rintro e w1 ⟨rfl, hb⟩
    have A_1 := Lib.hid (IsM.stb.next A_0.out (hb))
    have B_1 := Lib.hid (IsV.stb.next B_0.out (hb))
    have C_1 := Lib.hid (IsV.stb.next C_0.out (hb))
    have R_1 := Lib.hid (Row.next R_0.out (hb))
    have bw_1 := Lib.hid (zaa bw_0.out (hb))
    clear A_0 B_0 C_0 R_0 bw_0
    clear cR0_1 cR1_1 cR2_1
    obtain ⟨cR0_2, cR1_2, cR2_2⟩ := zad R_1.out
    go_wp2_with fail
    refine ((show Calls Tryz.prog 34 #[.slice B p.B.length b] w1 (fun e w' => e = .returned (.int .i64 y) ∧ Below (World.heap w1).size w1 w') from by rw [Hy.out]; exact zcf B_1.out)).mono ?_
    rintro e w2 ⟨rfl, hb⟩
    have A_2 := Lib.hid (IsM.stb.next A_1.out (hb))
    have B_2 := Lib.hid (IsV.stb.next B_1.out (hb))
    have C_2 := Lib.hid (IsV.stb.next C_1.out (hb))
    have R_2 := Lib.hid (Row.next R_1.out (hb))
    have bw_2 := Lib.hid (zaa bw_1.out (hb))
    clear A_1 B_1 C_1 R_1 bw_1
    clear cR0_2 cR1_2 cR2_2
    obtain ⟨cR0_3, cR1_3, cR2_3⟩ := zad R_2.out
    go_wp2_with fail
    refine ((show Calls Tryz.prog 34 #[.slice C p.C.length c] w2 (fun e w' => e = .returned (.int .i64 z) ∧ Below (World.heap w2).size w2 w') from by rw [Hz2.out]; exact zcf C_2.out)).mono ?_
    rintro e w3 ⟨rfl, hb⟩
    have A_3 := Lib.hid (IsM.stb.next A_2.out (hb))
    have B_3 := Lib.hid (IsV.stb.next B_2.out (hb))
    have C_3 := Lib.hid (IsV.stb.next C_2.out (hb))
    have R_3 := Lib.hid (Row.next R_2.out (hb))
    have bw_3 := Lib.hid (zaa bw_2.out (hb))
    clear A_2 B_2 C_2 R_2 bw_2
    clear cR0_3 cR1_3 cR2_3
    obtain ⟨cR0_4, cR1_4, cR2_4⟩ := zad R_3.out
    go_wp2_with fail
    go_quiet (fail)
    go_wp2_with fail
    go_ret
    exact ⟨zar (by rw [Hfin.out, Hu2.out]), below_drewN bw_3.out _⟩
  have e1 : ((p.A.length : Int) != (p.B.length : Int)) = false := by rw [h1]; simp
  rcases Nat.eq_zero_or_pos p.A.length with h2 | h2
  · have e2 : decide (0 < p.A.length) = false := decide_eq_false (by omega)
    have Hu2 : Hid (u = 0) := by rw [Hid, Hu.out]; unfold chkF fitE; exact if_neg (by rintro (h | ⟨h, _⟩) <;> omega)
    have e3 : p.A.length < 1 := by omega
    clear h1 h2
    go_enter Tryz.func54, Tryz.ntmps54
    go_wp2_with fail
    clear hw0
    refine ((show Calls Tryz.prog 109 #[.slice A p.A.length a] w0 (fun e w' => e = .returned (.int .i64 x) ∧ Below (World.heap w0).size w0 w') from by rw [Hx.out]; exact rform_l A_0.out)).mono ?_
    rintro e w1 ⟨rfl, hb⟩
    have A_1 := Lib.hid (IsM.stb.next A_0.out (hb))
    have B_1 := Lib.hid (IsV.stb.next B_0.out (hb))
    have C_1 := Lib.hid (IsV.stb.next C_0.out (hb))
    have R_1 := Lib.hid (Row.next R_0.out (hb))
    have bw_1 := Lib.hid (zaa bw_0.out (hb))
    clear A_0 B_0 C_0 R_0 bw_0
    clear cR0_1 cR1_1 cR2_1
    obtain ⟨cR0_2, cR1_2, cR2_2⟩ := zad R_1.out
    go_wp2_with fail
    refine ((show Calls Tryz.prog 34 #[.slice B p.B.length b] w1 (fun e w' => e = .returned (.int .i64 y) ∧ Below (World.heap w1).size w1 w') from by rw [Hy.out]; exact zcf B_1.out)).mono ?_
    rintro e w2 ⟨rfl, hb⟩
    have A_2 := Lib.hid (IsM.stb.next A_1.out (hb))
    have B_2 := Lib.hid (IsV.stb.next B_1.out (hb))
    have C_2 := Lib.hid (IsV.stb.next C_1.out (hb))
    have R_2 := Lib.hid (Row.next R_1.out (hb))
    have bw_2 := Lib.hid (zaa bw_1.out (hb))
    clear A_1 B_1 C_1 R_1 bw_1
    clear cR0_2 cR1_2 cR2_2
    obtain ⟨cR0_3, cR1_3, cR2_3⟩ := zad R_2.out
    go_wp2_with fail
    refine ((show Calls Tryz.prog 34 #[.slice C p.C.length c] w2 (fun e w' => e = .returned (.int .i64 z) ∧ Below (World.heap w2).size w2 w') from by rw [Hz2.out]; exact zcf C_2.out)).mono ?_
    rintro e w3 ⟨rfl, hb⟩
    have A_3 := Lib.hid (IsM.stb.next A_2.out (hb))
    have B_3 := Lib.hid (IsV.stb.next B_2.out (hb))
    have C_3 := Lib.hid (IsV.stb.next C_2.out (hb))
    have R_3 := Lib.hid (Row.next R_2.out (hb))
    have bw_3 := Lib.hid (zaa bw_2.out (hb))
    clear A_2 B_2 C_2 R_2 bw_2
    clear cR0_3 cR1_3 cR2_3
    obtain ⟨cR0_4, cR1_4, cR2_4⟩ := zad R_3.out
    go_wp2_with fail
    go_quiet (fail)
    go_wp2_with fail
    go_ret
    exact ⟨zar (by rw [Hfin.out, Hu2.out]), below_drewN bw_3.out _⟩
  · have e2 : decide (0 < p.A.length) = true := decide_eq_true h2
    obtain ⟨row0, hrow0⟩ := rsome_at h2
    have hM := A_0.out
    obtain ⟨bb, off, P, kP, rfl, _, _, cM⟩ := zdp hM hrow0
    rw [Nat.add_zero] at cM
    have hh : (p.A.headD []).length = row0.length := by
      cases hA : p.A with
      | nil => rw [hA] at h2; simp at h2
      | cons a t => rw [hA] at hrow0; simp at hrow0; rw [← hrow0]; rfl
    have H1 := Lib.hid h1
    have Hh := Lib.hid hh
    clear h1 hrow0 hh hM
    by_cases h3 : row0.length = p.C.length
    · have e3 : ((row0.length : Int) != (p.C.length : Int)) = false := by rw [h3]; simp
      have Hu2 : Hid (u = 0) := by rw [Hid, Hu.out]; unfold chkF fitE; exact if_neg (by rw [Hh.out, H1.out]; rintro (h | ⟨_, h⟩); exact h rfl; exact h h3)
      clear h3
      go_enter Tryz.func54, Tryz.ntmps54
      go_wp2_with fail
      clear hw0
      refine ((show Calls Tryz.prog 109 #[.slice (some ⟨bb, off, none⟩) p.A.length a] w0 (fun e w' => e = .returned (.int .i64 x) ∧ Below (World.heap w0).size w0 w') from by rw [Hx.out]; exact rform_l A_0.out)).mono ?_
      rintro e w1 ⟨rfl, hb⟩
      have A_1 := Lib.hid (IsM.stb.next A_0.out (hb))
      have B_1 := Lib.hid (IsV.stb.next B_0.out (hb))
      have C_1 := Lib.hid (IsV.stb.next C_0.out (hb))
      have R_1 := Lib.hid (Row.next R_0.out (hb))
      have bw_1 := Lib.hid (zaa bw_0.out (hb))
      clear A_0 B_0 C_0 R_0 bw_0
      have cM_2 := zab (hb) cM
      clear cR0_1 cR1_1 cR2_1 cM
      obtain ⟨cR0_3, cR1_3, cR2_3⟩ := zad R_1.out
      go_wp2_with fail
      refine ((show Calls Tryz.prog 34 #[.slice B p.B.length b] w1 (fun e w' => e = .returned (.int .i64 y) ∧ Below (World.heap w1).size w1 w') from by rw [Hy.out]; exact zcf B_1.out)).mono ?_
      rintro e w2 ⟨rfl, hb⟩
      have A_2 := Lib.hid (IsM.stb.next A_1.out (hb))
      have B_2 := Lib.hid (IsV.stb.next B_1.out (hb))
      have C_2 := Lib.hid (IsV.stb.next C_1.out (hb))
      have R_2 := Lib.hid (Row.next R_1.out (hb))
      have bw_2 := Lib.hid (zaa bw_1.out (hb))
      clear A_1 B_1 C_1 R_1 bw_1
      have cM_4 := zab (hb) cM_2
      clear cR0_3 cR1_3 cR2_3 cM_2
      obtain ⟨cR0_5, cR1_5, cR2_5⟩ := zad R_2.out
      go_wp2_with fail
      refine ((show Calls Tryz.prog 34 #[.slice C p.C.length c] w2 (fun e w' => e = .returned (.int .i64 z) ∧ Below (World.heap w2).size w2 w') from by rw [Hz2.out]; exact zcf C_2.out)).mono ?_
      rintro e w3 ⟨rfl, hb⟩
      have A_3 := Lib.hid (IsM.stb.next A_2.out (hb))
      have B_3 := Lib.hid (IsV.stb.next B_2.out (hb))
      have C_3 := Lib.hid (IsV.stb.next C_2.out (hb))
      have R_3 := Lib.hid (Row.next R_2.out (hb))
      have bw_3 := Lib.hid (zaa bw_2.out (hb))
      clear A_2 B_2 C_2 R_2 bw_2
      have cM_6 := zab (hb) cM_4
      clear cR0_5 cR1_5 cR2_5 cM_4
      obtain ⟨cR0_7, cR1_7, cR2_7⟩ := zad R_3.out
      go_wp2_with fail
      go_quiet (fail)
      go_wp2_with fail
      go_ret
      exact ⟨zar (by rw [Hfin.out, Hu2.out]), below_drewN bw_3.out _⟩
    · have e3 : ((row0.length : Int) != (p.C.length : Int)) = true := bne_iff_ne.2 (by omega)
      have Hu2 : Hid (u = 10) := by rw [Hid, Hu.out]; unfold chkF fitE; exact if_pos (.inr ⟨by rw [← H1.out]; exact h2, by rw [Hh.out]; exact h3⟩)
      clear h3
      go_enter Tryz.func54, Tryz.ntmps54
      go_wp2_with fail
      clear hw0
      refine ((show Calls Tryz.prog 109 #[.slice (some ⟨bb, off, none⟩) p.A.length a] w0 (fun e w' => e = .returned (.int .i64 x) ∧ Below (World.heap w0).size w0 w') from by rw [Hx.out]; exact rform_l A_0.out)).mono ?_
      rintro e w1 ⟨rfl, hb⟩
      have A_1 := Lib.hid (IsM.stb.next A_0.out (hb))
      have B_1 := Lib.hid (IsV.stb.next B_0.out (hb))
      have C_1 := Lib.hid (IsV.stb.next C_0.out (hb))
      have R_1 := Lib.hid (Row.next R_0.out (hb))
      have bw_1 := Lib.hid (zaa bw_0.out (hb))
      clear A_0 B_0 C_0 R_0 bw_0
      have cM_2 := zab (hb) cM
      clear cR0_1 cR1_1 cR2_1 cM
      obtain ⟨cR0_3, cR1_3, cR2_3⟩ := zad R_1.out
      go_wp2_with fail
      refine ((show Calls Tryz.prog 34 #[.slice B p.B.length b] w1 (fun e w' => e = .returned (.int .i64 y) ∧ Below (World.heap w1).size w1 w') from by rw [Hy.out]; exact zcf B_1.out)).mono ?_
      rintro e w2 ⟨rfl, hb⟩
      have A_2 := Lib.hid (IsM.stb.next A_1.out (hb))
      have B_2 := Lib.hid (IsV.stb.next B_1.out (hb))
      have C_2 := Lib.hid (IsV.stb.next C_1.out (hb))
      have R_2 := Lib.hid (Row.next R_1.out (hb))
      have bw_2 := Lib.hid (zaa bw_1.out (hb))
      clear A_1 B_1 C_1 R_1 bw_1
      have cM_4 := zab (hb) cM_2
      clear cR0_3 cR1_3 cR2_3 cM_2
      obtain ⟨cR0_5, cR1_5, cR2_5⟩ := zad R_2.out
      go_wp2_with fail
      refine ((show Calls Tryz.prog 34 #[.slice C p.C.length c] w2 (fun e w' => e = .returned (.int .i64 z) ∧ Below (World.heap w2).size w2 w') from by rw [Hz2.out]; exact zcf C_2.out)).mono ?_
      rintro e w3 ⟨rfl, hb⟩
      have A_3 := Lib.hid (IsM.stb.next A_2.out (hb))
      have B_3 := Lib.hid (IsV.stb.next B_2.out (hb))
      have C_3 := Lib.hid (IsV.stb.next C_2.out (hb))
      have R_3 := Lib.hid (Row.next R_2.out (hb))
      have bw_3 := Lib.hid (zaa bw_2.out (hb))
      clear A_2 B_2 C_2 R_2 bw_2
      have cM_6 := zab (hb) cM_4
      clear cR0_5 cR1_5 cR2_5 cM_4
      obtain ⟨cR0_7, cR1_7, cR2_7⟩ := zad R_3.out
      go_wp2_with fail
      go_quiet (fail)
      go_wp2_with fail
      go_ret
      exact ⟨zar (by rw [Hfin.out, Hu2.out]), below_drewN bw_3.out _⟩
set_option maxRecDepth 100000 in
set_option maxHeartbeats 1000000 in
theorem rleast_l {w : World} {v : Value} {l : List Raw} (h : IsV w (Old w) v l) :
    Calls Tryz.prog 125 #[v] w fun e w' => e = .returned (.bool (!zda l)) ∧ Below w.heap.size w w' := by
  have H := Lib.hid h
  obtain ⟨A, c, rfl, hl⟩ := zau h
  clear h
  go_enter Tryz.func125, Tryz.ntmps125
  go_wp2_with fail
  go_loopw [3] (fun i wr => ∃ k : Nat, k ≤ l.length ∧ i = .int .i64 (k : Int) ∧ Below w.heap.size w wr ∧ Hid (∀ j, j < k → ∀ r, l[j]? = some r → r.neg = false)) (fun i _ => l.length - (intOf i).toNat)
  case atStart => exact ⟨0, Nat.zero_le _, rfl, Below.refl _ _, fun j hj => by omega⟩
  case round =>
    obtain ⟨k, hk, rfl, hbw, hrel⟩ := hrel
    have Hbw := Lib.hid hbw
    have Hrel := Lib.hid hrel.out
    clear hrel
    rcases Nat.lt_or_ge k l.length with hlt | hge
    · obtain ⟨r, hr⟩ := zcs hlt
      obtain ⟨b, off, P, kP, Q, kQ, rfl, hSb, hel, c0, c1, c2⟩ := zdi (IsV.stb.next H.out hbw) hr
      have Hrr := Lib.hid hr
      have cr := zcm
      obtain ⟨s, hs⟩ : ∃ s, s = r.neg := ⟨_, rfl⟩
      rw [← hs] at c0
      have Hs := Lib.hid hs
      clear hel hr hbw hs
      cases s with
      | true =>
        have Hfin : Hid (zda l = true) := anyNeg_at Hrr.out Hs.out.symm
        go_wp2_with fail
        go_ret
        exact ⟨zdd (by rw [Hfin.out]; rfl), Hbw.out⟩
      | false =>
        go_wp2_with fail
        go_roundw
        case rel =>
          refine ⟨k + 1, by omega, by go_num, Hbw.out, fun j hj r' hr' => ?_⟩
          rcases Nat.lt_or_ge j k with h | h
          · exact Hrel.out j h r' hr'
          · obtain rfl : j = k := by omega
            rw [Hrr.out] at hr'
            cases hr'
            exact Hs.out.symm
        case measure => simp [intOf]; omega
    · obtain rfl : k = l.length := by omega
      have Hfin : Hid (zda l = false) := anyNeg_take Hrel.out
      clear hbw
      go_wp2_with fail
      go_ret
      exact ⟨zdd (by rw [Hfin.out]; rfl), Hbw.out⟩
set_option maxRecDepth 100000 in
set_option maxHeartbeats 1000000 in
theorem rminus_s {w : World} {v : Value} {l : List Rat} {S0 : Nat → Prop} (h : IsV w S0 v (rawV l)) (hS0 : ∀ b, S0 b → b < w.heap.size) (hlen : l.length ≤ 1000) :
    Calls Tryz.prog 121 #[v] w fun e w' => (∃ v', e = .returned v' ∧ IsV w' (Grow S0 w w') v' (rawV (negV l))) ∧ Below w.heap.size w w' := by
  have H := Lib.hid h
  have HS0 := Lib.hid hS0
  obtain ⟨A, c, rfl, hl⟩ := zau h
  have el : (rawV l).length = l.length := by simp [rawV]
  rw [el] at *
  clear h el hS0
  go_enter Tryz.func121, Tryz.ntmps121
  go_wp2_with fail
  go_loopw [3, 4] (fun v i wr => ∃ (k : Nat) (S : Nat → Prop), k ≤ l.length ∧ i = .int .i64 (k : Int) ∧ Below w.heap.size w wr ∧ OwnS 3 31 IsR wr w.heap.size S v (rawV (negV (l.take k))) ∧ Hid ((∀ b, S0 b → S b) ∧ ∀ b, S b → S0 b ∨ w.heap.size ≤ b)) (fun _ i _ => l.length - (intOf i).toNat)
  case atStart => exact ⟨0, S0, Nat.zero_le _, rfl, Below.refl _ _, by simpa [rawV, negV] using (OwnS.nil HS0.out : OwnS 3 31 IsR w w.heap.size S0 _ _), fun _ h => h, fun _ h => .inl h⟩
  case round =>
    obtain ⟨k, S, hk, rfl, hbw, hown, hS⟩ := hrel
    have Hbw := Lib.hid hbw
    have HS := Lib.hid hS.out
    clear hS
    rcases Nat.lt_or_ge k l.length with hlt | hge
    · obtain ⟨q, hq, hr⟩ := zfl hlt
      obtain ⟨b, off, P, kP, Q, kQ, rfl, hSb, hel, c0, c1, c2⟩ := zdi H.out hr
      have hSb' : b < w.heap.size := HS0.out b hSb
      have e0 := hbw.cell (p := ⟨b, off + k * 3, none⟩) hSb' |>.trans c0
      have e1 := hbw.cell (p := ⟨b, off + k * 3 + 1, none⟩) hSb' |>.trans c1
      have e2 := hbw.cell (p := ⟨b, off + k * 3 + 2, none⟩) hSb' |>.trans c2
      have Hel := Lib.hid (IsQ.stb.to (isR_isQ hel) (zbq (S := S0) hbw HS0.out))
      have Hq := Lib.hid hq
      have cr := zcm
      obtain ⟨p, hp⟩ : ∃ p, p = -q := ⟨_, rfl⟩
      have Hp := Lib.hid hp
      have Hown := Lib.hid hown
      have hsz := hbw.size
      clear hel hr hbw hq hp hown c0 c1 c2
      go_wp2_with fail
      refine (rneg_s Hel.out (fun b h => Nat.lt_of_lt_of_le (HS0.out b h) hsz) Hp.out).mono ?_
      rintro e w2 ⟨⟨v2, rfl, hv2⟩, hb⟩
      have Hb2 := Lib.hid hb
      have Hv2 := Lib.hid hv2
      have Hbs := Lib.hid (zaa Hbw.out hb)
      have hbase : w.heap.size ≤ w2.heap.size := Hbs.out.size
      obtain ⟨s2, P2, k2, O2, l2, rfl, _, _, _⟩ := zan hv2
      have hown2 := OwnS.step IsR.stb (T := fun b => S b ∨ (wr.heap.size ≤ b ∧ b < w2.heap.size)) Hown.out Hb2.out (fun b h => .inl h) (fun b h => h)
      have hel2 := IsQ.stb.to Hv2.out (zat (T := fun b => S b ∨ (wr.heap.size ≤ b ∧ b < w2.heap.size)) fun b h => .inl (HS.out.1 b h))
      clear hb hv2 e0 e1 e2
      go_wp2_with (at_builtin; refine wp_appS elR rfl _ _ rfl IsR.stb rfl rfl rfl hown2 hel2 rfl (by intro u hu; simp [Value.cells] at hu; rcases hu with rfl | rfl | rfl <;> rfl) (by simp [rawV, negV]; omega) hbase ?_; intro v3 w3 hown3 hb3 hz3)
      go_roundw
      case rel =>
        refine ⟨k + 1, fun b => S b ∨ (wr.heap.size ≤ b ∧ b < w2.heap.size), by omega, by go_num, Hbs.out.trans hb3, ?_, fun b hb => .inl (HS.out.1 b hb), fun b hb => by rcases hb with hb | hb; exact HS.out.2 b hb; exact .inr (Nat.le_trans hsz hb.1)⟩
        rw [zcj Hq.out, negV, List.map_append, rawV, List.map_append]
        simp only [List.map_cons, List.map_nil]
        rw [← Hp.out]
        exact hown3
      case measure => simp [intOf]; omega
    · obtain rfl : k = l.length := by omega
      have Hown := Lib.hid hown
      clear hown
      go_wp2_with fail
      go_ret
      refine ⟨⟨_, rfl, ?_⟩, Hbw.out⟩
      have h1 := OwnS.isS IsR.stb (T := Grow S0 w wr) Hown.out (fun b hb => by obtain ⟨_, _, _, _, h4⟩ := Hown.out; rcases HS.out.2 b hb with h | h; exact .inl h; exact .inr ⟨h, (h4 b hb).1⟩) (fun b h1 h2 => .inr ⟨h1, h2⟩)
      rw [List.take_length] at h1
      exact h1
theorem rminus_l {w : World} {v : Value} {l : List Rat} (h : IsV w (Old w) v (rawV l)) (hlen : l.length ≤ 1000) :
    Calls Tryz.prog 121 #[v] w fun e w' => (∃ v', e = .returned v' ∧ IsV w' (Old w') v' (rawV (negV l))) ∧ Below w.heap.size w w' :=
  (rminus_s h (fun b h => h) hlen).mono fun e w' ⟨⟨v', he, hv⟩, hb⟩ => ⟨⟨v', he, IsV.stb.to hv (zat fun b h => by rcases h with h | h; exact Nat.lt_of_lt_of_le h hb.size; exact h.2)⟩, hb⟩
theorem zez {w w0 : World} {v : Value} {p : Prog} (h : IsP w (Old w) v p) (hb : Below w.heap.size w w0) : Calls Tryz.prog 54 #[v] w0 fun e w' => e = .returned (.int .i64 (chkP p)) ∧ Below w0.heap.size w0 w' := rpcheck (IsP.stb.to h (zag hb))
theorem givE_one {p : Prog} {n : Nat} {x : List Raw} : givE p [n] [x] = if chkP p ≠ 0 then chkP p else if chkV x ≠ 0 then chkV x else if x.length ≠ n then 10 else 0 := by
  unfold givE
  split
  · rfl
  · simp only [List.zipWith_cons_cons, List.zipWith_nil_left, fstE]
    unfold vecE
    by_cases h : chkV x = 0
    · by_cases h2 : x.length = n <;> simp [h, h2]
    · simp [h]
set_option maxRecDepth 100000 in
set_option maxHeartbeats 1000000 in
theorem rone_l {w : World} {vp vx : Value} {p : Prog} {x : List Raw} {n : Nat} (hp : IsP w (Old w) vp p) (hx : IsV w (Old w) vx x) (hn : n ≤ 9223372036854775807) :
    Calls Tryz.prog 76 #[vp, vx, .int .i64 (n : Int)] w fun e w' => e = .returned (.int .i64 (givE p [n] [x])) ∧ Below w.heap.size w w' := by
  have HP := Lib.hid hp
  have HX := Lib.hid hx
  obtain ⟨A, cA, B, cB, C, cC, rfl, _⟩ := hp
  obtain ⟨D, cD, rfl, _⟩ := zau hx
  clear hx
  obtain ⟨w0, hw0, hb0, rP, Hz⟩ := zbm w #[.slice A p.A.length cA, .slice B p.B.length cB, .slice C p.C.length cC] 27
  have HB0 := Lib.hid hb0
  obtain ⟨cP0, cP1, cP2⟩ := zad rP
  obtain ⟨e1, he1⟩ : ∃ e, e = chkP p := ⟨_, rfl⟩
  obtain ⟨e2, he2⟩ : ∃ e, e = chkV x := ⟨_, rfl⟩
  have hg := @givE_one p n x
  rw [← he1, ← he2] at hg
  have He1 := Lib.hid he1
  have He2 := Lib.hid he2
  clear rP hb0 he1 he2
  by_cases h1 : e1 = 0
  case neg =>
    have Hfin : Hid (givE p [n] [x] = e1) := by rw [Hid, hg, if_pos h1]
    have b1 : (e1 != 0) = true := bne_iff_ne.2 h1
    clear hg h1
    go_enter Tryz.func76, Tryz.ntmps76
    go_wp2_with fail
    clear hw0
    refine (zez HP.out HB0.out).mono ?_
    rw [← He1.out]
    rintro e w1 ⟨rfl, hb⟩
    go_wp2_with fail
    go_ret
    exact ⟨zar Hfin.out.symm, zaa HB0.out hb⟩
  subst h1
  rw [if_neg (by simp)] at hg
  by_cases h2 : e2 = 0
  case neg =>
    have Hfin : Hid (givE p [n] [x] = e2) := by rw [Hid, hg, if_pos h2]
    have b1 : (e2 != 0) = true := bne_iff_ne.2 h2
    clear hg h2
    go_enter Tryz.func76, Tryz.ntmps76
    go_wp2_with fail
    clear hw0
    refine (zez HP.out HB0.out).mono ?_
    rw [← He1.out]
    rintro e w1 ⟨rfl, hb⟩
    have Hb1 := Lib.hid (zaa HB0.out hb)
    clear hb
    go_wp2_with fail
    refine (zcf (IsV.stb.to HX.out (zag Hb1.out))).mono ?_
    rw [← He2.out]
    rintro e w2 ⟨rfl, hb⟩
    go_wp2_with fail
    go_ret
    exact ⟨zar Hfin.out.symm, zaa Hb1.out hb⟩
  subst h2
  rw [if_neg (by simp)] at hg
  obtain ⟨m, hm⟩ : ∃ m, m = x.length := ⟨_, rfl⟩
  rw [← hm] at hg HX ⊢
  clear hm
  by_cases h3 : m = n
  case neg =>
    have Hfin : Hid (givE p [n] [x] = 10) := by rw [Hid, hg, if_pos h3]
    have b1 : ((m : Int) != (n : Int)) = true := bne_iff_ne.2 (by omega)
    clear hg h3
    go_enter Tryz.func76, Tryz.ntmps76
    go_wp2_with fail
    clear hw0
    refine (zez HP.out HB0.out).mono ?_
    rw [← He1.out]
    rintro e w1 ⟨rfl, hb⟩
    have Hb1 := Lib.hid (zaa HB0.out hb)
    clear hb
    go_wp2_with fail
    refine (zcf (IsV.stb.to HX.out (zag Hb1.out))).mono ?_
    rw [← He2.out]
    rintro e w2 ⟨rfl, hb⟩
    go_wp2_with fail
    go_ret
    exact ⟨zar Hfin.out.symm, zaa Hb1.out hb⟩
  have Hfin : Hid (givE p [n] [x] = 0) := by rw [Hid, hg, if_neg (fun h => h h3)]
  have b1 : ((m : Int) != (n : Int)) = false := by rw [h3]; simp
  clear hg h3
  go_enter Tryz.func76, Tryz.ntmps76
  go_wp2_with fail
  clear hw0
  refine (zez HP.out HB0.out).mono ?_
  rw [← He1.out]
  rintro e w1 ⟨rfl, hb⟩
  have Hb1 := Lib.hid (zaa HB0.out hb)
  clear hb
  go_wp2_with fail
  refine (zcf (IsV.stb.to HX.out (zag Hb1.out))).mono ?_
  rw [← He2.out]
  rintro e w2 ⟨rfl, hb⟩
  go_wp2_with fail
  go_ret
  exact ⟨zar Hfin.out.symm, zaa Hb1.out hb⟩
theorem rest_sz {row x : List Rat} {b : Rat} (hr : ∀ q ∈ row, Sz q 1024) (hx : ∀ q ∈ x, Sz q 1024) (hb : Sz b 1024) (hl : row.length ≤ 40) : Sz (dotQ row x) 100000 := zel hr hx hl
set_option maxRecDepth 100000 in
set_option maxHeartbeats 4000000 in
theorem rrest_l {w : World} {vp vx : Value} {A : List (List Rat)} {B x : List Rat} {CC : List Raw} (hp : IsP w (Old w) vp ⟨rawM A, rawV B, CC⟩) (hx : IsV w (Old w) vx (rawV x)) (hA : A.length = B.length) (hrow : ∀ row ∈ A, row.length = x.length)
    (szA : ∀ row ∈ A, ∀ q ∈ row, Sz q 1024) (szB : ∀ q ∈ B, Sz q 1024) (szx : ∀ q ∈ x, Sz q 1024) (hn : x.length ≤ 40) (hm : B.length ≤ 40) :
    Calls Tryz.prog 67 #[vp, vx] w fun e w' => (∃ v', e = .returned v' ∧ IsV w' (Old w') v' (rawV (zfp A B x))) ∧ Below w.heap.size w w' := by
  have HX := Lib.hid hx
  have HAB := Lib.hid hA
  have Hrow := Lib.hid hrow
  have HsA := Lib.hid szA
  have HsB := Lib.hid szB
  have Hsx := Lib.hid szx
  have Hn := Lib.hid hn
  obtain ⟨PA, cA, PB, cB, PC, cC, rfl, hM, hBv, _⟩ := hp
  obtain ⟨PX, cX, rfl, _⟩ := zau hx
  simp only [zay, zek] at hM hBv HX ⊢
  obtain ⟨M, hMM⟩ : ∃ m, m = B.length := ⟨_, rfl⟩
  have HM := Lib.hid hM
  have HBv := Lib.hid hBv
  rw [← hMM] at hm HBv
  rw [hA, ← hMM] at HM
  have HMM := Lib.hid hMM
  have hx40 : x.length ≤ 9223372036854775807 := by omega
  rw [hA, ← hMM]
  clear hx hA hrow szA szB szx hn hM hBv hMM
  obtain ⟨w0, hw0, hb0, rP, Hz⟩ := zbm w #[.slice PA M cA, .slice PB M cB, .slice PC CC.length cC] 27
  have HB0 := Lib.hid hb0
  obtain ⟨cP0, cP1, cP2⟩ := zad rP
  have CP := Lib.hid (zad rP)
  clear rP hb0
  go_enter Tryz.func67, Tryz.ntmps67
  go_wp2_with fail
  clear hw0 cP0 cP1 cP2
  go_loopw [5, 6] (fun v i wr => ∃ (k : Nat) (S : Nat → Prop), k ≤ M ∧ i = .int .i64 (k : Int) ∧ Below w0.heap.size w0 wr ∧ OwnS 3 31 IsR wr w0.heap.size S v (rawV ((zfp A B x).take k)) ∧ Hid (∀ b, b < w0.heap.size → S b)) (fun _ i _ => M - (intOf i).toNat)
  case atStart => exact ⟨0, Old w0, Nat.zero_le _, rfl, Below.refl _ _, by simpa [rawV] using (OwnS.nil (fun b h => h) : OwnS 3 31 IsR w0 w0.heap.size (Old w0) _ _), fun _ h => h⟩
  case round =>
    obtain ⟨k, S, hk, rfl, hbw, hown, hS⟩ := hrel
    have Hbw := Lib.hid hbw
    have HS0 := Lib.hid hS.out
    have cP0 := zab hbw CP.out.1
    have cP1 := zab hbw CP.out.2.1
    have hszw := hbw.size
    clear hS
    rcases Nat.lt_or_ge k M with hlt | hge
    · obtain ⟨b, hb, hrb⟩ := zfl (l := B) (j := k) (by rw [← HMM.out]; exact hlt)
      obtain ⟨row, hr, hrr⟩ := rawM_get (m := A) (j := k) (by rw [HAB.out, ← HMM.out]; exact hlt)
      obtain ⟨b1, o1, X1, X2, X3, X4, rfl, hSb1, helb, c0, c1, c2⟩ := zdi HBv.out hrb
      obtain ⟨b2, o2, Y1, Y2, rfl, hSb2, helr, d0⟩ := zdp HM.out hrr
      obtain ⟨x0, hx0⟩ : ∃ s, s = (raw b).neg := ⟨_, rfl⟩
      obtain ⟨x1, hx1⟩ : ∃ s, s = (raw b).num.length := ⟨_, rfl⟩
      obtain ⟨x2, hx2⟩ : ∃ s, s = (raw b).den.length := ⟨_, rfl⟩
      have er : (rawV row).length = x.length := (zay row).trans (Hrow.out row (List.mem_of_getElem? hr))
      rw [er] at d0 helr
      rw [← hx0] at c0
      rw [← hx1] at c1
      rw [← hx2] at c2
      rw [← hx0, ← hx1, ← hx2] at helb
      have hSb1' : b1 < w.heap.size := hSb1
      have hSb2' : b2 < w.heap.size := hSb2
      have hb0w := HB0.out
      have e0 := hb0w.cell (p := ⟨b1, o1 + k * 3, none⟩) hSb1 |>.trans c0
      have e1 := hb0w.cell (p := ⟨b1, o1 + k * 3 + 1, none⟩) hSb1 |>.trans c1
      have e2 := hb0w.cell (p := ⟨b1, o1 + k * 3 + 2, none⟩) hSb1 |>.trans c2
      have e3 := hb0w.cell (p := ⟨b2, o2 + k, none⟩) hSb2 |>.trans d0
      have E := Lib.hid (And.intro e0 (And.intro e1 (And.intro e2 e3)))
      have QB := Lib.hid (IsQ.stb.to (isR_isQ helb) (zag hb0w))
      have QR := Lib.hid (IsV.stb.to helr (zag hb0w))
      have QX := Lib.hid (IsV.stb.to HX.out (zag hb0w))
      obtain ⟨d, hd⟩ : ∃ d, d = dotQ row x := ⟨_, rfl⟩
      obtain ⟨nd, hnd⟩ : ∃ d', d' = -d := ⟨_, rfl⟩
      obtain ⟨r, hr2⟩ : ∃ r, r = b + nd := ⟨_, rfl⟩
      have Hd := Lib.hid hd
      have Hnd := Lib.hid hnd
      have Hr2 := Lib.hid hr2
      have Hrl : Hid (row.length = x.length) := Hrow.out row (List.mem_of_getElem? hr)
      have Hsr : Hid (∀ q ∈ row, Sz q 1024) := HsA.out row (List.mem_of_getElem? hr)
      have Hsb : Hid (Sz b 100000) := (HsB.out b (List.mem_of_getElem? hb)).le (by omega)
      have Hsn : Hid (Sz nd 100000) := by rw [Hid, hnd, hd]; exact (zel Hsr.out Hsx.out (by rw [Hrl.out]; exact Hn.out)).neg
      have Hend : Hid ((zfp A B x).take (k + 1) = (zfp A B x).take k ++ [r]) := by
        rw [Hid, restQ_take hr hb, hr2, hnd, hd, Rat.sub_eq_add_neg]
      have Hown := Lib.hid hown
      have cr := zcm
      have e0 := zab hbw e0
      have e1 := zab hbw e1
      have e2 := zab hbw e2
      have e3 := zab hbw e3
      clear hb hr hrb hrr helb helr hx0 hx1 hx2 c0 c1 c2 d0 hd hnd hr2 hb0w hown er
      have hbase : w.heap.size ≤ w0.heap.size := HB0.out.size
      have hk0 : (0 : Int) ≤ (k : Int) := by omega
      have hk1 : (k : Int) < (M : Int) := by omega
      go_wp2_with fail
      have HS : Hid (∀ W : World, Below w0.heap.size w0 W → W.cell? ⟨w.heap.size, 0, none⟩ = some (.slice (some ⟨b2, o2, none⟩) M cA) ∧ W.cell? ⟨w.heap.size, 1, none⟩ = some (.slice (some ⟨b1, o1, none⟩) M cB) ∧ W.cell? ⟨b1, o1 + k * 3, none⟩ = some (.bool x0) ∧ W.cell? ⟨b1, o1 + k * 3 + 1, none⟩ = some (.slice X1 x1 X2) ∧ W.cell? ⟨b1, o1 + k * 3 + 2, none⟩ = some (.slice X3 x2 X4) ∧ W.cell? ⟨b2, o2 + k, none⟩ = some (.slice Y1 x.length Y2)) := fun W hW => ⟨zab hW CP.out.1, zab hW CP.out.2.1, zab hW E.out.1, zab hW E.out.2.1, zab hW E.out.2.2.1, zab hW E.out.2.2.2⟩
      have D3 : Hid (∀ W : World, Below w0.heap.size w0 W → Calls Tryz.prog 62 #[.slice Y1 x.length Y2, .slice PX x.length cX] W (RetQ W d)) := fun W hW => by rw [Hd.out]; exact product_q (M := x.length) (IsV.stb.next QR.out hW) (IsV.stb.next QX.out hW) Hrl.out rfl Hn.out Hsr.out Hsx.out
      go_region_held3 (fun w' => w'.cell? ⟨w.heap.size, 0, none⟩ = some (.slice (some ⟨b2, o2, none⟩) M cA) ∧ w'.cell? ⟨w.heap.size, 1, none⟩ = some (.slice (some ⟨b1, o1, none⟩) M cB) ∧ w'.cell? ⟨b1, o1 + k * 3, none⟩ = some (.bool x0) ∧ w'.cell? ⟨b1, o1 + k * 3 + 1, none⟩ = some (.slice X1 x1 X2) ∧ w'.cell? ⟨b1, o1 + k * 3 + 2, none⟩ = some (.slice X3 x2 X4) ∧ w'.cell? ⟨b2, o2 + k, none⟩ = some (.slice Y1 x.length Y2))
        (exact HS.out _ (by (repeat (first | exact Below.refl _ _ | assumption | refine zae ?_ _ | refine zah ?_ | refine zaf ?_ ?_ _ _ _ | refine zaa ?_ (by assumption))); (first | done | fail)))
        (first
          | (go_at_call 62; (with_reducible refine Calls.mono (D3.out _ (by (repeat (first | exact Below.refl _ _ | assumption | refine zae ?_ _ | refine zah ?_ | refine zaf ?_ ?_ _ _ _ | refine zaa ?_ (by assumption))); (first | done | fail))) ?_); rintro e w3 ⟨⟨v3, rfl, hv3⟩, hb3⟩; have V3 := Lib.hid (IsQ.stb.old hv3); obtain ⟨s3, P3, k3, O3, l3, rfl, _, _, _⟩ := zan hv3; have D4 : Hid (∀ W : World, Below w3.heap.size w3 W → Calls Tryz.prog 63 #[.agg #[.bool s3, .slice P3 (lim d.num.natAbs).length k3, .slice O3 (lim d.den).length l3]] W (RetS (Old W) W nd)) := fun W hW => rneg_s (IsQ.stb.next V3.out hW) (fun b h => h) Hnd.out)
          | (go_at_call 63; (with_reducible refine Calls.mono (D4.out _ (by (repeat (first | exact Below.refl _ _ | assumption | refine zae ?_ _ | refine zah ?_ | refine zaf ?_ ?_ _ _ _ | refine zaa ?_ (by assumption))); (first | done | fail))) ?_); rintro e w4 ⟨⟨v4, rfl, hv4⟩, hb4⟩; have V4 := Lib.hid (isQ_oldW hv4 hb4); obtain ⟨s4, P4, k4, O4, l4, rfl, _, _, _⟩ := zan hv4; have D5 : Hid (∀ W : World, Below w4.heap.size w4 W → Calls Tryz.prog 42 #[.agg #[.bool x0, .slice X1 x1 X2, .slice X3 x2 X4], .agg #[.bool s4, .slice P4 (lim nd.num.natAbs).length k4, .slice O4 (lim nd.den).length l4]] W (RetQ W r)) := fun W hW => raddq (IsQ.stb.next QB.out (by (repeat (first | exact Below.refl _ _ | assumption | refine zae ?_ _ | refine zah ?_ | refine zaf ?_ ?_ _ _ _ | refine zaa ?_ (by assumption))); (first | done | fail))) (IsQ.stb.next V4.out (by (repeat (first | exact Below.refl _ _ | assumption | refine zae ?_ _ | refine zah ?_ | refine zaf ?_ ?_ _ _ _ | refine zaa ?_ (by assumption))); (first | done | fail))) Hsb.out Hsn.out Hr2.out)
          | (go_at_call 42; (with_reducible refine Calls.mono (D5.out _ (by (repeat (first | exact Below.refl _ _ | assumption | refine zae ?_ _ | refine zah ?_ | refine zaf ?_ ?_ _ _ _ | refine zaa ?_ (by assumption))); (first | done | fail))) ?_); rintro e w5 ⟨⟨v5, rfl, hv5⟩, hb5⟩; have V5 := Lib.hid (IsQ.stb.old hv5); obtain ⟨s5, P5, k5, O5, l5, rfl, _, _, _⟩ := zan hv5; have hB5 : Below wr.heap.size wr w5 := (by (repeat (first | exact Below.refl _ _ | assumption | refine zae ?_ _ | refine zah ?_ | refine zaf ?_ ?_ _ _ _ | refine zaa ?_ (by assumption))); (first | done | fail)); have HO := Lib.hid (OwnS.step IsR.stb (T := (fun b => S b ∨ (wr.heap.size ≤ b ∧ b < w5.heap.size))) Hown.out hB5 (fun b h => .inl h) (fun b h => h)); have HE := Lib.hid (IsQ.stb.to hv5 (zat (T := (fun b => S b ∨ (wr.heap.size ≤ b ∧ b < w5.heap.size))) fun b h => .inr ⟨Nat.le_trans (Below.size (w := wr) (by (repeat (first | exact Below.refl _ _ | assumption | refine zae ?_ _ | refine zah ?_ | refine zaf ?_ ?_ _ _ _ | refine zaa ?_ (by assumption))); (first | done | fail))) h.1, h.2⟩)); have hb5w : w0.heap.size ≤ w5.heap.size := Nat.le_trans hszw hB5.size)
          | (refine zfd elR rfl _ _ rfl IsR.stb rfl rfl rfl HO.out HE.out rfl (by intro u hu; simp [Value.cells] at hu; rcases hu with rfl | rfl | rfl <;> rfl) (by have h1 := List.length_take_le k (zfp A B x); rw [zay]; omega) hb5w ?_; intro v6 w6 hown6 hb6 hz6; have hB6 : Below w0.heap.size w0 w6 := Below.trans (by (repeat (first | exact Below.refl _ _ | assumption | refine zae ?_ _ | refine zah ?_ | refine zaf ?_ ?_ _ _ _ | refine zaa ?_ (by assumption))); (first | done | fail)) hb6))
      go_wp2_with fail
      go_roundw
      case rel =>
        refine ⟨k + 1, (fun b => S b ∨ (wr.heap.size ≤ b ∧ b < w5.heap.size)), by omega, by go_num, hB6, ?_, fun b hb => .inl (HS0.out b hb)⟩
        rw [Hend.out, rawV, List.map_append]
        exact hown6
      case measure => simp [intOf]; omega
    · obtain rfl : k = M := by omega
      have e : (zfp A B x).take k = zfp A B x := List.take_of_length_le (by rw [restQ_len HAB.out, ← HMM.out]; exact Nat.le_refl _)
      rw [e] at hown
      have Hown := Lib.hid hown
      have hbase : w.heap.size ≤ w0.heap.size := HB0.out.size
      clear hown e
      go_wp2_with fail
      go_ret
      exact ⟨⟨_, rfl, OwnS.isS IsR.stb (T := Old wr) Hown.out (fun b hb => by obtain ⟨_, _, _, _, h4⟩ := Hown.out; exact (h4 b hb).1) (fun b h1 h2 => h2)⟩, zaa HB0.out Hbw.out⟩
set_option maxRecDepth 100000 in
set_option maxHeartbeats 1000000 in
theorem rfeas_l {w : World} {vp vx : Value} {A : List (List Rat)} {B x : List Rat} {CC : List Raw} (hp : IsP w (Old w) vp ⟨rawM A, rawV B, CC⟩) (hx : IsV w (Old w) vx (rawV x)) (hA : A.length = B.length) (hrow : ∀ row ∈ A, row.length = x.length)
    (szA : ∀ row ∈ A, ∀ q ∈ row, Sz q 1024) (szB : ∀ q ∈ B, Sz q 1024) (szx : ∀ q ∈ x, Sz q 1024) (hn : x.length ≤ 40) (hm : B.length ≤ 40) :
    Calls Tryz.prog 77 #[vp, vx] w fun e w' => e = .returned (.bool (leastB x && leastB (zfp A B x))) ∧ Below w.heap.size w w' := by
  have HP := Lib.hid hp
  have HX := Lib.hid hx
  have HR : Hid (∀ W : World, Below w.heap.size w W → Calls Tryz.prog 67 #[vp, vx] W fun e w' => (∃ v', e = .returned v' ∧ IsV w' (Old w') v' (rawV (zfp A B x))) ∧ Below W.heap.size W w') :=
    fun W hW => rrest_l (IsP.stb.to hp (zag hW)) (IsV.stb.to hx (zag hW)) hA hrow szA szB szx hn hm
  obtain ⟨PA, cA, PB, cB, PC, cC, rfl, _⟩ := hp
  obtain ⟨PX, cX, rfl, _⟩ := zau hx
  clear hx hA hrow szA szB szx hn hm
  obtain ⟨w0, hw0, hb0, rP, Hz⟩ := zbm w #[.slice PA (rawM A).length cA, .slice PB (rawV B).length cB, .slice PC CC.length cC] 27
  have HB0 := Lib.hid hb0
  have RP := Lib.hid rP
  obtain ⟨cP0, cP1, cP2⟩ := zad rP
  obtain ⟨g1, hg1⟩ : ∃ b, b = leastB x := ⟨_, rfl⟩
  have Hg1 := Lib.hid hg1
  obtain ⟨g2, hg2⟩ : ∃ b, b = leastB (zfp A B x) := ⟨_, rfl⟩
  have Hg2 := Lib.hid hg2
  rw [← hg1, ← hg2]
  clear rP hb0 hg1 hg2
  cases g1
  case false =>
    go_enter Tryz.func77, Tryz.ntmps77
    go_wp2_with fail
    clear hw0
    refine (rleast_l (IsV.stb.to HX.out (zag HB0.out))).mono ?_
    rw [show (!zda (rawV x)) = false from Hg1.out.symm]
    rintro e w1 ⟨rfl, hb⟩
    go_wp2_with fail
    go_ret
    exact ⟨rfl, zaa HB0.out hb⟩
  case true =>
    go_enter Tryz.func77, Tryz.ntmps77
    go_wp2_with fail
    clear hw0
    refine (rleast_l (IsV.stb.to HX.out (zag HB0.out))).mono ?_
    rw [show (!zda (rawV x)) = true from Hg1.out.symm]
    rintro e w1 ⟨rfl, hb⟩
    have Hb1 := Lib.hid (zaa HB0.out hb)
    clear cP0 cP1 cP2
    obtain ⟨cP0, cP1, cP2⟩ := zad (RP.out.next hb)
    clear hb
    go_wp2_with fail
    refine (HR.out _ Hb1.out).mono ?_
    rintro e w2 ⟨⟨v2, rfl, hv2⟩, hb⟩
    have Hb2 := Lib.hid (zaa Hb1.out hb)
    have HV2 := Lib.hid hv2
    obtain ⟨P2, c2, rfl, _⟩ := zau hv2
    clear hb hv2
    go_wp2_with fail
    refine (rleast_l HV2.out).mono ?_
    rintro e w3 ⟨rfl, hb⟩
    rw [show (!zda (rawV (zfp A B x))) = g2 from Hg2.out.symm]
    go_wp2_with fail
    go_ret
    exact ⟨rfl, zaa Hb2.out hb⟩
end Go.Proofs.YtblpaocignlpkaaGreatDoor
