/-
  The walk of the law NatDivides.
-/
import Derived.Test.YtbeocfiimminiaaDoorQuotN
import Derived.Test.YtbeocfiimminiaaDoorKitA
import Derived.Test.YtbeocfiimminiaaDoorAwake
namespace Go.Proofs.YtbeocfiimminiaaDoor
open Go.RowKit
set_option linter.unusedVariables false

set_option maxRecDepth 100000 in
set_option maxHeartbeats 1000000 in
theorem law_div_out {w : World} {va vb vc : Value} {a b c : List Nat} (ha : IsL .u32 w 0 w.heap.size va a) (hb : IsL .u32 w 0 w.heap.size vb b) (hc : IsL .u32 w 0 w.heap.size vc c) (h : 25 < a.length ∨ (a.length ≤ 25 ∧ 25 < b.length) ∨ (a.length ≤ 25 ∧ b.length ≤ 25 ∧ 5 < c.length)) :
    Calls Tryd.prog 6 #[va, vb, vc] w fun e w' => e = .returned (.bool true) ∧ Below w.heap.size w w' := by
  obtain ⟨A, ca, rfl, _, _, hA⟩ := ha
  obtain ⟨B, cb, rfl, _, _, hB⟩ := hb
  obtain ⟨C, cc, rfl, _, _, hC⟩ := hc
  rcases h with h | ⟨h, h'⟩ | ⟨h, h', h''⟩
  all_goals
    go_enter Tryd.func6, Tryd.ntmps6
    go_wp2_with fail
    refine (awake_true w).mono ?_
    rintro e w1 ⟨rfl, hb⟩
    go_wp2_with fail
    go_ret
    exact ⟨rfl, hb⟩

set_option maxRecDepth 100000 in
set_option maxHeartbeats 4000000 in
theorem law_div_in {w : World} {va vb vc : Value} {a b c : List Nat} (ha : IsL .u32 w 0 w.heap.size va a) (hb : IsL .u32 w 0 w.heap.size vb b) (hc : IsL .u32 w 0 w.heap.size vc c) (hT : Bru w) (h1 : a.length ≤ 25) (h2 : b.length ≤ 25) (h3 : c.length ≤ 5) :
    Calls Tryd.prog 6 #[va, vb, vc] w fun e w' => e = .returned (.bool true) ∧ Below w.heap.size w w' := by
  have Al0 := Lib.hid ha
  have Bl0 := Lib.hid hb
  have Cl0 := Lib.hid hc
  have T0 := Lib.hid hT
  obtain ⟨A, ca, rfl, _, _, _⟩ := ha
  obtain ⟨B, cb, rfl, _, _, _⟩ := hb
  obtain ⟨C, cc, rfl, _, _, _⟩ := hc
  obtain ⟨x, hx⟩ : ∃ x, x = val (cut9 a) := ⟨_, rfl⟩
  obtain ⟨y, hy⟩ : ∃ y, y = val (cut9 b) := ⟨_, rfl⟩
  obtain ⟨z, hz⟩ : ∃ z, z = val (cut9 c) := ⟨_, rfl⟩
  have hA : Hid ((lim (x)).length ≤ 25) := by unfold Hid; rw [hx]; exact Nat.le_trans (lim_val_len (lo_cut9 a)) (by rw [cut9_length]; exact h1)
  have hB : Hid ((lim (y)).length ≤ 25) := by unfold Hid; rw [hy]; exact Nat.le_trans (lim_val_len (lo_cut9 b)) (by rw [cut9_length]; exact h2)
  have hC : Hid ((lim (z)).length ≤ 5) := by unfold Hid; rw [hz]; exact Nat.le_trans (lim_val_len (lo_cut9 c)) (by rw [cut9_length]; exact h3)
  have Hx := Lib.hid hx
  have Hy := Lib.hid hy
  have Hz := Lib.hid hz
  clear hx hy hz hT
  go_enter Tryd.func6, Tryd.ntmps6
  go_wp2_with fail
  refine (limbs_l Al0.out (Nat.le_refl _) (by omega)).mono ?_
  rw [← Hx.out]
  rintro e wA ⟨⟨vA, rfl, hv⟩, hb⟩
  have bw1 := Lib.hid (hb)
  have Al1 := Lib.hid (Al0.out.next (hb))
  have Bl1 := Lib.hid (Bl0.out.next (hb))
  have Cl1 := Lib.hid (Cl0.out.next (hb))
  have T1 := Lib.hid (T0.out.below (hb))
  clear Al0 Bl0 Cl0 T0
  have A1 := Lib.hid (hv.wide (lo' := 0) (Nat.zero_le _) (Nat.le_refl _))
  obtain ⟨pA, cA, rfl, _, _, _⟩ := hv
  clear hb
  clear Al1
  go_wp2_with fail
  refine (limbs_l Bl1.out (Nat.le_refl _) (by omega)).mono ?_
  rw [← Hy.out]
  rintro e wB ⟨⟨vB, rfl, hv⟩, hb⟩
  have bw2 := Lib.hid (below_step bw1.out (hb))
  have Bl2 := Lib.hid (Bl1.out.next (hb))
  have Cl2 := Lib.hid (Cl1.out.next (hb))
  have T2 := Lib.hid (T1.out.below (hb))
  have A2 := Lib.hid (A1.out.next (hb))
  clear Bl1 Cl1 T1 A1 bw1
  have B2 := Lib.hid (hv.wide (lo' := 0) (Nat.zero_le _) (Nat.le_refl _))
  obtain ⟨pB, cB, rfl, _, _, _⟩ := hv
  clear hb
  clear Bl2
  go_wp2_with fail
  refine (limbs_l Cl2.out (Nat.le_refl _) (by omega)).mono ?_
  rw [← Hz.out]
  rintro e wC ⟨⟨vC, rfl, hv⟩, hb⟩
  have bw3 := Lib.hid (below_step bw2.out (hb))
  have Cl3 := Lib.hid (Cl2.out.next (hb))
  have T3 := Lib.hid (T2.out.below (hb))
  have A3 := Lib.hid (A2.out.next (hb))
  have B3 := Lib.hid (B2.out.next (hb))
  clear Cl2 T2 A2 B2 bw2
  have C3 := Lib.hid (hv.wide (lo' := 0) (Nat.zero_le _) (Nat.le_refl _))
  obtain ⟨pC, cC, rfl, _, _, _⟩ := hv
  clear hb
  clear Cl3
  rcases Nat.eq_zero_or_pos (lim x).length with hx0 | hx0
  · have hxz : (((lim x).length : Int) == 0) = true := by rw [hx0]; rfl
    clear hx0
    have hi9 : (lim x).length ≤ 1024 := by have := hA.out; omega
    have Hi9 := Lib.hid hi9
    clear hi9
    go_wp2_with fail
    refine (ndiv_zero A3.out (IsN.zero (w := _) (lo := 0) (hi := 0)) (Nat.le_refl _) (Nat.zero_le _) Hi9.out).mono ?_
    rintro e w5 ⟨rfl, hb⟩
    go_wp2_with fail
    refine (awake_true _).mono ?_
    rintro e w8 ⟨rfl, hb8⟩
    go_wp2_with fail
    go_ret
    exact ⟨rfl, below_step (below_step bw3.out hb) hb8⟩
  have hxz : (((lim x).length : Int) == 0) = false := beq_eq_false_iff_ne.2 (by omega)
  have Hx0 : Hid (0 < x) := by
    rcases Nat.eq_zero_or_pos x with h | h
    · rw [h, lim_zero] at hx0; simp at hx0
    · exact h
  clear hx0
  rcases Nat.eq_zero_or_pos (lim y).length with hy0 | hy0
  · have hyz : (((lim y).length : Int) == 0) = true := by rw [hy0]; rfl
    clear hy0
    have hi9 : (lim x).length ≤ 1024 := by have := hA.out; omega
    have Hi9 := Lib.hid hi9
    clear hi9
    go_wp2_with fail
    refine (ndiv_zero A3.out (IsN.zero (w := _) (lo := 0) (hi := 0)) (Nat.le_refl _) (Nat.zero_le _) Hi9.out).mono ?_
    rintro e w5 ⟨rfl, hb⟩
    go_wp2_with fail
    refine (awake_true _).mono ?_
    rintro e w8 ⟨rfl, hb8⟩
    go_wp2_with fail
    go_ret
    exact ⟨rfl, below_step (below_step bw3.out hb) hb8⟩
  have hyz : (((lim y).length : Int) == 0) = false := beq_eq_false_iff_ne.2 (by omega)
  have Hy0 : Hid (0 < y) := by
    rcases Nat.eq_zero_or_pos y with h | h
    · rw [h, lim_zero] at hy0; simp at hy0
    · exact h
  clear hy0
  rcases Nat.eq_zero_or_pos (lim z).length with hz0 | hz0
  · have hzz : (((lim z).length : Int) == 0) = true := by rw [hz0]; rfl
    clear hz0
    have hi9 : (lim x).length ≤ 1024 := by have := hA.out; omega
    have Hi9 := Lib.hid hi9
    clear hi9
    go_wp2_with fail
    refine (ndiv_zero A3.out (IsN.zero (w := _) (lo := 0) (hi := 0)) (Nat.le_refl _) (Nat.zero_le _) Hi9.out).mono ?_
    rintro e w5 ⟨rfl, hb⟩
    go_wp2_with fail
    refine (awake_true _).mono ?_
    rintro e w8 ⟨rfl, hb8⟩
    go_wp2_with fail
    go_ret
    exact ⟨rfl, below_step (below_step bw3.out hb) hb8⟩
  have hzz : (((lim z).length : Int) == 0) = false := beq_eq_false_iff_ne.2 (by omega)
  have Hz0 : Hid (0 < z) := by
    rcases Nat.eq_zero_or_pos z with h | h
    · rw [h, lim_zero] at hz0; simp at hz0
    · exact h
  clear hz0
  go_wp2_with fail
  have hQ : Hid ((lim (x / y)).length ≤ 25) := by unfold Hid; exact Nat.le_trans (lim_len_mono (Nat.div_le_self _ _)) hA.out
  refine (ndiv_ok A3.out B3.out (Nat.le_refl _) (Nat.le_refl _) (by have := hA.out; omega) (by have := hB.out; omega) Hy0.out).mono ?_
  rintro e wQ ⟨⟨vQ, vR, rfl, hv, hv'⟩, hb⟩
  have bw4 := Lib.hid (below_step bw3.out (hb))
  have T4 := Lib.hid (T3.out.below (hb))
  have A4 := Lib.hid (A3.out.next (hb))
  have B4 := Lib.hid (B3.out.next (hb))
  have C4 := Lib.hid (C3.out.next (hb))
  clear T3 A3 B3 C3 bw3
  have Q4 := Lib.hid (hv.wide (lo' := 0) (Nat.zero_le _) (Nat.le_refl _))
  clear hv
  have R4 := Lib.hid (hv'.wide (lo' := 0) (Nat.zero_le _) (Nat.le_refl _))
  clear hv'
  clear hb
  have hR : Hid ((lim (x % y)).length ≤ 25) := by unfold Hid; exact Nat.le_trans (lim_len_mono (Nat.mod_le _ _)) hA.out
  go_wp2_with fail
  refine (ncmp_n R4.out B4.out (Nat.le_refl _) (Nat.le_refl _) (by have := hR.out; omega) (by have := hB.out; omega)).mono ?_
  rw [sgn_mod Hy0.out]
  rintro e wcmp ⟨rfl, hb⟩
  have bw5 := Lib.hid (below_step bw4.out (hb))
  have T5 := Lib.hid (T4.out.below (hb))
  have A5 := Lib.hid (A4.out.next (hb))
  have B5 := Lib.hid (B4.out.next (hb))
  have C5 := Lib.hid (C4.out.next (hb))
  have Q5 := Lib.hid (Q4.out.next (hb))
  have R5 := Lib.hid (R4.out.next (hb))
  clear T4 A4 B4 C4 Q4 R4 bw4
  clear hb
  go_wp2_with fail
  have hP : Hid ((lim ((x / y) * y)).length ≤ 50) := by unfold Hid; have := hQ.out; have := hB.out; have := lim_len_mul (x / y) (y); omega
  refine (product_n Q5.out B5.out (Nat.le_refl _) (Nat.le_refl _) (by have := hQ.out; omega) (by have := hB.out; omega) (by have := hP.out; omega)).mono ?_
  rintro e wP ⟨⟨vP, rfl, hv⟩, hb⟩
  have bw6 := Lib.hid (below_step bw5.out (hb))
  have T6 := Lib.hid (T5.out.below (hb))
  have A6 := Lib.hid (A5.out.next (hb))
  have B6 := Lib.hid (B5.out.next (hb))
  have C6 := Lib.hid (C5.out.next (hb))
  have Q6 := Lib.hid (Q5.out.next (hb))
  have R6 := Lib.hid (R5.out.next (hb))
  clear T5 A5 B5 C5 Q5 R5 bw5
  have P6 := Lib.hid (hv.wide (lo' := 0) (Nat.zero_le _) (Nat.le_refl _))
  clear hv hb
  go_wp2_with fail
  have hS : Hid ((lim (((x / y) * y) + (x % y))).length ≤ 51) := by unfold Hid; have := hP.out; have := hR.out; have := lim_len_add ((x / y) * y) (x % y); omega
  refine (sum_n P6.out R6.out (Nat.le_refl _) (Nat.le_refl _) (by have := hP.out; omega) (by have := hR.out; omega) (by have := hS.out; omega)).mono ?_
  rintro e wS ⟨⟨vS, rfl, hv⟩, hb⟩
  have bw7 := Lib.hid (below_step bw6.out (hb))
  have T7 := Lib.hid (T6.out.below (hb))
  have A7 := Lib.hid (A6.out.next (hb))
  have B7 := Lib.hid (B6.out.next (hb))
  have C7 := Lib.hid (C6.out.next (hb))
  have Q7 := Lib.hid (Q6.out.next (hb))
  have R7 := Lib.hid (R6.out.next (hb))
  have P7 := Lib.hid (P6.out.next (hb))
  clear T6 A6 B6 C6 Q6 R6 P6 bw6
  have S7 := Lib.hid (hv.wide (lo' := 0) (Nat.zero_le _) (Nat.le_refl _))
  clear hv hb
  go_wp2_with fail
  refine (alike_n S7.out A7.out).mono ?_
  rw [decide_eq_true (Nat.div_add_mod' x y)]
  rintro e wd7 ⟨rfl, hdr⟩
  have bw8 := Lib.hid (below_step bw7.out (hdr.below _))
  have T8 := Lib.hid (T7.out.below (hdr.below _))
  have A8 := Lib.hid (A7.out.next (hdr.below _))
  have B8 := Lib.hid (B7.out.next (hdr.below _))
  have C8 := Lib.hid (C7.out.next (hdr.below _))
  have Q8 := Lib.hid (Q7.out.next (hdr.below _))
  have R8 := Lib.hid (R7.out.next (hdr.below _))
  have P8 := Lib.hid (P7.out.next (hdr.below _))
  have S8 := Lib.hid (S7.out.next (hdr.below _))
  clear T7 A7 B7 C7 Q7 R7 P7 S7 bw7
  clear hdr
  go_wp2_with fail
  clear Q8 R8 P8 S8
  have hM : Hid ((lim (x * z)).length ≤ 30) := by unfold Hid; have := hA.out; have := hC.out; have := lim_len_mul (x) (z); omega
  refine (product_n A8.out C8.out (Nat.le_refl _) (Nat.le_refl _) (by have := hA.out; omega) (by have := hC.out; omega) (by have := hM.out; omega)).mono ?_
  rintro e wM ⟨⟨vM, rfl, hv⟩, hb⟩
  have bw9 := Lib.hid (below_step bw8.out (hb))
  have T9 := Lib.hid (T8.out.below (hb))
  have A9 := Lib.hid (A8.out.next (hb))
  have B9 := Lib.hid (B8.out.next (hb))
  have C9 := Lib.hid (C8.out.next (hb))
  clear T8 A8 B8 C8 bw8
  have M9 := Lib.hid (hv.wide (lo' := 0) (Nat.zero_le _) (Nat.le_refl _))
  clear hv hb
  go_wp2_with fail
  have hN : Hid ((lim (y * z)).length ≤ 30) := by unfold Hid; have := hB.out; have := hC.out; have := lim_len_mul (y) (z); omega
  refine (product_n B9.out C9.out (Nat.le_refl _) (Nat.le_refl _) (by have := hB.out; omega) (by have := hC.out; omega) (by have := hN.out; omega)).mono ?_
  rintro e wN ⟨⟨vN, rfl, hv⟩, hb⟩
  have bw10 := Lib.hid (below_step bw9.out (hb))
  have T10 := Lib.hid (T9.out.below (hb))
  have A10 := Lib.hid (A9.out.next (hb))
  have B10 := Lib.hid (B9.out.next (hb))
  have C10 := Lib.hid (C9.out.next (hb))
  have M10 := Lib.hid (M9.out.next (hb))
  clear T9 A9 B9 C9 M9 bw9
  have N10 := Lib.hid (hv.wide (lo' := 0) (Nat.zero_le _) (Nat.le_refl _))
  clear hv hb
  go_wp2_with fail
  have hG : Hid ((lim (Nat.gcd (x * z) (y * z))).length ≤ 30) := by unfold Hid; exact gcd_len (Nat.le_trans hM.out (by omega)) (Nat.le_trans hN.out (by omega))
  refine (ngcd_n M10.out N10.out T10.out (by have := hM.out; omega) (by have := hN.out; omega)).mono ?_
  rintro e wG ⟨⟨vG, rfl, hv⟩, hb⟩
  have bw11 := Lib.hid (below_step bw10.out (hb))
  have T11 := Lib.hid (T10.out.below (hb))
  have A11 := Lib.hid (A10.out.next (hb))
  have B11 := Lib.hid (B10.out.next (hb))
  have C11 := Lib.hid (C10.out.next (hb))
  have M11 := Lib.hid (M10.out.next (hb))
  have N11 := Lib.hid (N10.out.next (hb))
  clear T10 A10 B10 C10 M10 N10 bw10
  have G11 := Lib.hid (hv.wide (lo' := 0) (Nat.zero_le _) (Nat.le_refl _))
  clear hv
  clear hb
  go_wp2_with fail
  clear M11 N11
  have hH : Hid ((lim (Nat.gcd x y)).length ≤ 25) := by unfold Hid; exact gcd_len (Nat.le_trans hA.out (by omega)) (Nat.le_trans hB.out (by omega))
  refine (ngcd_n A11.out B11.out T11.out (by have := hA.out; omega) (by have := hB.out; omega)).mono ?_
  rintro e wH ⟨⟨vH, rfl, hv⟩, hb⟩
  have bw12 := Lib.hid (below_step bw11.out (hb))
  have T12 := Lib.hid (T11.out.below (hb))
  have A12 := Lib.hid (A11.out.next (hb))
  have B12 := Lib.hid (B11.out.next (hb))
  have C12 := Lib.hid (C11.out.next (hb))
  have G12 := Lib.hid (G11.out.next (hb))
  clear T11 A11 B11 C11 G11 bw11
  have H12 := Lib.hid (hv.wide (lo' := 0) (Nat.zero_le _) (Nat.le_refl _))
  obtain ⟨pH, cH, rfl, _, _, _⟩ := hv
  clear hb
  go_wp2_with fail
  have Hg : Hid (0 < Nat.gcd x y) := Nat.gcd_pos_of_pos_left _ Hx0.out
  have hgl : 1 ≤ (lim (Nat.gcd x y)).length := lim_pos2 Hg.out
  have hgz : (((lim (Nat.gcd x y)).length : Int) == 0) = false := beq_eq_false_iff_ne.2 (by omega)
  have hL : Hid ((lim (lcmN x y)).length ≤ 50) := by unfold Hid; unfold lcmN; have := lim_len_mul (x / Nat.gcd x y) y; have := lim_len_mono (Nat.div_le_self x (Nat.gcd x y)); have := hA.out; have := hB.out; omega
  refine (nlcm_n A12.out B12.out T12.out (by have := hA.out; omega) (by have := hB.out; omega) (by have := hL.out; omega)).mono ?_
  rintro e wL ⟨⟨vL, rfl, hv⟩, hb⟩
  have bw13 := Lib.hid (below_step bw12.out (hb))
  have T13 := Lib.hid (T12.out.below (hb))
  have A13 := Lib.hid (A12.out.next (hb))
  have B13 := Lib.hid (B12.out.next (hb))
  have C13 := Lib.hid (C12.out.next (hb))
  have G13 := Lib.hid (G12.out.next (hb))
  have H13 := Lib.hid (H12.out.next (hb))
  clear T12 A12 B12 C12 G12 H12 bw12
  have L13 := Lib.hid (hv.wide (lo' := 0) (Nat.zero_le _) (Nat.le_refl _))
  clear hv
  clear hb
  go_wp2_with fail
  have hK : Hid ((lim ((Nat.gcd x y) * z)).length ≤ 30) := by unfold Hid; have := hH.out; have := hC.out; have := lim_len_mul (Nat.gcd x y) (z); omega
  refine (product_n H13.out C13.out (Nat.le_refl _) (Nat.le_refl _) (by have := hH.out; omega) (by have := hC.out; omega) (by have := hK.out; omega)).mono ?_
  rintro e wK ⟨⟨vK, rfl, hv⟩, hb⟩
  have bw14 := Lib.hid (below_step bw13.out (hb))
  have T14 := Lib.hid (T13.out.below (hb))
  have A14 := Lib.hid (A13.out.next (hb))
  have B14 := Lib.hid (B13.out.next (hb))
  have C14 := Lib.hid (C13.out.next (hb))
  have G14 := Lib.hid (G13.out.next (hb))
  have H14 := Lib.hid (H13.out.next (hb))
  have L14 := Lib.hid (L13.out.next (hb))
  clear T13 A13 B13 C13 G13 H13 L13 bw13
  have K14 := Lib.hid (hv.wide (lo' := 0) (Nat.zero_le _) (Nat.le_refl _))
  clear hv hb
  go_wp2_with fail
  refine (alike_n G14.out K14.out).mono ?_
  rw [decide_eq_true (Nat.gcd_mul_right x z y)]
  rintro e wd14 ⟨rfl, hdr⟩
  have bw15 := Lib.hid (below_step bw14.out (hdr.below _))
  have T15 := Lib.hid (T14.out.below (hdr.below _))
  have A15 := Lib.hid (A14.out.next (hdr.below _))
  have B15 := Lib.hid (B14.out.next (hdr.below _))
  have C15 := Lib.hid (C14.out.next (hdr.below _))
  have G15 := Lib.hid (G14.out.next (hdr.below _))
  have H15 := Lib.hid (H14.out.next (hdr.below _))
  have L15 := Lib.hid (L14.out.next (hdr.below _))
  have K15 := Lib.hid (K14.out.next (hdr.below _))
  clear T14 A14 B14 C14 G14 H14 L14 K14 bw14
  clear hdr
  go_wp2_with fail
  clear G15 K15 C15
  have hU : Hid ((lim ((Nat.gcd x y) * (lcmN x y))).length ≤ 75) := by unfold Hid; have := hH.out; have := hL.out; have := lim_len_mul (Nat.gcd x y) (lcmN x y); omega
  refine (product_n H15.out L15.out (Nat.le_refl _) (Nat.le_refl _) (by have := hH.out; omega) (by have := hL.out; omega) (by have := hU.out; omega)).mono ?_
  rintro e wU ⟨⟨vU, rfl, hv⟩, hb⟩
  have bw16 := Lib.hid (below_step bw15.out (hb))
  have T16 := Lib.hid (T15.out.below (hb))
  have A16 := Lib.hid (A15.out.next (hb))
  have B16 := Lib.hid (B15.out.next (hb))
  have H16 := Lib.hid (H15.out.next (hb))
  have L16 := Lib.hid (L15.out.next (hb))
  clear T15 A15 B15 H15 L15 bw15
  have U16 := Lib.hid (hv.wide (lo' := 0) (Nat.zero_le _) (Nat.le_refl _))
  clear hv hb
  go_wp2_with fail
  have hV : Hid ((lim (x * y)).length ≤ 50) := by unfold Hid; have := hA.out; have := hB.out; have := lim_len_mul (x) (y); omega
  refine (product_n A16.out B16.out (Nat.le_refl _) (Nat.le_refl _) (by have := hA.out; omega) (by have := hB.out; omega) (by have := hV.out; omega)).mono ?_
  rintro e wV ⟨⟨vV, rfl, hv⟩, hb⟩
  have bw17 := Lib.hid (below_step bw16.out (hb))
  have T17 := Lib.hid (T16.out.below (hb))
  have A17 := Lib.hid (A16.out.next (hb))
  have B17 := Lib.hid (B16.out.next (hb))
  have H17 := Lib.hid (H16.out.next (hb))
  have L17 := Lib.hid (L16.out.next (hb))
  have U17 := Lib.hid (U16.out.next (hb))
  clear T16 A16 B16 H16 L16 U16 bw16
  have V17 := Lib.hid (hv.wide (lo' := 0) (Nat.zero_le _) (Nat.le_refl _))
  clear hv hb
  go_wp2_with fail
  refine (alike_n U17.out V17.out).mono ?_
  rw [decide_eq_true (gcd_lcmN)]
  rintro e wd17 ⟨rfl, hdr⟩
  have bw18 := Lib.hid (below_step bw17.out (hdr.below _))
  have T18 := Lib.hid (T17.out.below (hdr.below _))
  have A18 := Lib.hid (A17.out.next (hdr.below _))
  have B18 := Lib.hid (B17.out.next (hdr.below _))
  have H18 := Lib.hid (H17.out.next (hdr.below _))
  have L18 := Lib.hid (L17.out.next (hdr.below _))
  have U18 := Lib.hid (U17.out.next (hdr.below _))
  have V18 := Lib.hid (V17.out.next (hdr.below _))
  clear T17 A17 B17 H17 L17 U17 V17 bw17
  clear hdr
  go_wp2_with fail
  clear U18 V18 L18
  have hl0 : (((lim 0).length : Int) == 0) = true := by rw [lim_zero]; rfl
  have hl00 : (lim 0).length = 0 := by rw [lim_zero]; rfl
  have hX : Hid ((lim (x / (Nat.gcd x y))).length ≤ 25) := by unfold Hid; exact Nat.le_trans (lim_len_mono (Nat.div_le_self _ _)) hA.out
  refine (ndiv_ok A18.out H18.out (Nat.le_refl _) (Nat.le_refl _) (by have := hA.out; omega) (by have := hH.out; omega) Hg.out).mono ?_
  rw [Nat.mod_eq_zero_of_dvd (Nat.gcd_dvd_left x y)]
  rintro e wX ⟨⟨vX, vY, rfl, hv, hv'⟩, hb⟩
  have bw19 := Lib.hid (below_step bw18.out (hb))
  have T19 := Lib.hid (T18.out.below (hb))
  have A19 := Lib.hid (A18.out.next (hb))
  have B19 := Lib.hid (B18.out.next (hb))
  have H19 := Lib.hid (H18.out.next (hb))
  clear T18 A18 B18 H18 bw18
  have X19 := Lib.hid (hv.wide (lo' := 0) (Nat.zero_le _) (Nat.le_refl _))
  clear hv
  have Y19 := Lib.hid (hv'.wide (lo' := 0) (Nat.zero_le _) (Nat.le_refl _))
  obtain ⟨pY, cY, rfl, _, _, _⟩ := hv'
  clear hb
  go_wp2_with fail
  clear A19 Y19
  have hZ : Hid ((lim (y / (Nat.gcd x y))).length ≤ 25) := by unfold Hid; exact Nat.le_trans (lim_len_mono (Nat.div_le_self _ _)) hB.out
  refine (ndiv_ok B19.out H19.out (Nat.le_refl _) (Nat.le_refl _) (by have := hB.out; omega) (by have := hH.out; omega) Hg.out).mono ?_
  rw [Nat.mod_eq_zero_of_dvd (Nat.gcd_dvd_right x y)]
  rintro e wZ ⟨⟨vZ, vW, rfl, hv, hv'⟩, hb⟩
  have bw20 := Lib.hid (below_step bw19.out (hb))
  have T20 := Lib.hid (T19.out.below (hb))
  have B20 := Lib.hid (B19.out.next (hb))
  have H20 := Lib.hid (H19.out.next (hb))
  have X20 := Lib.hid (X19.out.next (hb))
  clear T19 B19 H19 X19 bw19
  have Z20 := Lib.hid (hv.wide (lo' := 0) (Nat.zero_le _) (Nat.le_refl _))
  clear hv
  have W20 := Lib.hid (hv'.wide (lo' := 0) (Nat.zero_le _) (Nat.le_refl _))
  obtain ⟨pW, cW, rfl, _, _, _⟩ := hv'
  clear hb
  go_wp2_with fail
  clear B20 H20 W20
  refine (ngcd_n X20.out Z20.out T20.out (by have := hX.out; omega) (by have := hZ.out; omega)).mono ?_
  rw [gcd_both Hg.out]
  rintro e wO ⟨⟨vO, rfl, hv⟩, hb⟩
  have bw21 := Lib.hid (below_step bw20.out (hb))
  have T21 := Lib.hid (T20.out.below (hb))
  have X21 := Lib.hid (X20.out.next (hb))
  have Z21 := Lib.hid (Z20.out.next (hb))
  clear T20 X20 Z20 bw20
  have O21 := Lib.hid (hv.wide (lo' := 0) (Nat.zero_le _) (Nat.le_refl _))
  clear hv
  clear hb
  clear X21 Z21 T21
  go_wp2_with fail
  have hL1 := lit_l wO 34 (l := [1]) #[.int .u32 1] 1 (by simp [cel]) rfl (by simp [maxLen])
  have hX1 := O21.out.more (.cells #[.int .u32 1] 34)
  unfold IsN at hX1
  rw [lim_one] at hX1
  refine (is_ok hX1 hL1).mono ?_
  clear hX1 hL1 O21
  rw [decide_eq_true rfl]
  rintro e wd ⟨rfl, hdr⟩
  go_wp2_with fail
  refine (awake_true _).mono ?_
  rintro e w8 ⟨rfl, hb8⟩
  go_wp2_with fail
  go_ret
  exact ⟨rfl, below_step (below_stepD (below_stepA bw21.out _) hdr) hb8⟩

theorem law_div {w : World} {va vb vc : Value} {a b c : List Nat} (ha : IsL .u32 w 0 w.heap.size va a) (hb : IsL .u32 w 0 w.heap.size vb b) (hc : IsL .u32 w 0 w.heap.size vc c) (hT : Bru w) :
    Calls Tryd.prog 6 #[va, vb, vc] w fun e w' => e = .returned (.bool true) ∧ Below w.heap.size w w' := by
  rcases Nat.lt_or_ge 25 a.length with h1 | h1
  · exact law_div_out ha hb hc (.inl h1)
  · rcases Nat.lt_or_ge 25 b.length with h2 | h2
    · exact law_div_out ha hb hc (.inr (.inl ⟨h1, h2⟩))
    · rcases Nat.lt_or_ge 5 c.length with h3 | h3
      · exact law_div_out ha hb hc (.inr (.inr ⟨h1, h2, h3⟩))
      · exact law_div_in ha hb hc hT h1 h2 h3
end Go.Proofs.YtbeocfiimminiaaDoor
