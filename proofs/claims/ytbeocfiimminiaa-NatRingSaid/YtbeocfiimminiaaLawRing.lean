/-
  The walk of the law NatRing.
-/
import Derived.Test.YtbeocfiimminiaaRingA
import Derived.Test.YtbeocfiimminiaaMod
import Derived.Test.YtbeocfiimminiaaAwake
namespace Go.Proofs.Ytbeocfiimminiaa
open Go.RowKit
set_option linter.unusedVariables false

theorem pow_toNat {x : Nat} {m n : Int} (hm : 0 ≤ m) (hn : 0 ≤ n) : x ^ m.toNat * x ^ n.toNat = x ^ (m + n).toNat := by
  rw [← Nat.pow_add, Int.toNat_add hm hn]
theorem lit_one0 (w : World) (t : TypeId) : IsN (w.alloc (.cells #[.int .u32 1] t)) 0 (w.alloc (.cells #[.int .u32 1] t)).heap.size (.slice (some ⟨w.heap.size, 0, none⟩) 1 1) 1 := by
  unfold IsN
  rw [lim_one]
  exact (lit_new w t [1] #[.int .u32 1] 1 (by simp [cel]) rfl (by simp [maxLen])).wide (Nat.zero_le _) (by simp)

set_option maxRecDepth 100000 in
set_option maxHeartbeats 2000000 in
theorem law_ring_out {w : World} {va vb vc : Value} {a b c : List Nat} (ha : IsL .u32 w 0 w.heap.size va a) (hb : IsL .u32 w 0 w.heap.size vb b) (hc : IsL .u32 w 0 w.heap.size vc c) (i j : Int) (h : 20 < a.length ∨ (a.length ≤ 20 ∧ 20 < b.length) ∨ (a.length ≤ 20 ∧ b.length ≤ 20 ∧ 20 < c.length)) :
    Calls Try.prog 5 #[va, vb, vc, .int .i64 i, .int .i64 j] w fun e w' => e = .returned (.bool true) ∧ Below w.heap.size w w' := by
  obtain ⟨A, ca, rfl, _, _, hA⟩ := ha
  obtain ⟨B, cb, rfl, _, _, hB⟩ := hb
  obtain ⟨C, cc, rfl, _, _, hC⟩ := hc
  rcases h with h | ⟨h, h'⟩ | ⟨h, h', h''⟩
  all_goals
    go_enter Try.func5, Try.ntmps5
    go_wp2_with fail
    refine (awake_true w).mono ?_
    rintro e w1 ⟨rfl, hb⟩
    go_wp2_with fail
    go_ret
    exact ⟨rfl, hb⟩

set_option maxRecDepth 100000 in
set_option maxHeartbeats 4000000 in
theorem law_ring_in {w : World} {va vb vc : Value} {a b c : List Nat} (ha : IsL .u32 w 0 w.heap.size va a) (hb : IsL .u32 w 0 w.heap.size vb b) (hc : IsL .u32 w 0 w.heap.size vc c) (i j : Int) (hi0 : -9223372036854775808 ≤ i) (hi9 : i ≤ 9223372036854775807) (hj0 : -9223372036854775808 ≤ j) (hj9 : j ≤ 9223372036854775807) (h1 : a.length ≤ 20) (h2 : b.length ≤ 20) (h3 : c.length ≤ 20) :
    Calls Try.prog 5 #[va, vb, vc, .int .i64 i, .int .i64 j] w fun e w' => e = .returned (.bool true) ∧ Below w.heap.size w w' := by
  have Al0 := Lib.hid ha
  have Bl0 := Lib.hid hb
  have Cl0 := Lib.hid hc
  obtain ⟨A, ca, rfl, _, _, _⟩ := ha
  obtain ⟨B, cb, rfl, _, _, _⟩ := hb
  obtain ⟨C, cc, rfl, _, _, _⟩ := hc
  obtain ⟨x, hx⟩ : ∃ x, x = val (cut9 a) := ⟨_, rfl⟩
  obtain ⟨y, hy⟩ : ∃ y, y = val (cut9 b) := ⟨_, rfl⟩
  obtain ⟨z, hz⟩ : ∃ z, z = val (cut9 c) := ⟨_, rfl⟩
  have hA : Hid ((lim (x)).length ≤ 20) := by unfold Hid; rw [hx]; exact Nat.le_trans (lim_val_len (lo_cut9 a)) (by rw [cut9_length]; exact h1)
  have hB : Hid ((lim (y)).length ≤ 20) := by unfold Hid; rw [hy]; exact Nat.le_trans (lim_val_len (lo_cut9 b)) (by rw [cut9_length]; exact h2)
  have hC : Hid ((lim (z)).length ≤ 20) := by unfold Hid; rw [hz]; exact Nat.le_trans (lim_val_len (lo_cut9 c)) (by rw [cut9_length]; exact h3)
  have Hx := Lib.hid hx
  have Hy := Lib.hid hy
  have Hz := Lib.hid hz
  have hiR : Hid (-9223372036854775808 ≤ i ∧ i ≤ 9223372036854775807) := ⟨hi0, hi9⟩
  have hjR : Hid (-9223372036854775808 ≤ j ∧ j ≤ 9223372036854775807) := ⟨hj0, hj9⟩
  clear hx hy hz hi0 hi9 hj0 hj9
  go_enter Try.func5, Try.ntmps5
  go_wp2_with fail
  refine (limbs_l Al0.out (Nat.le_refl _) (by omega)).mono ?_
  rw [← Hx.out]
  rintro e wA ⟨⟨vA, rfl, hv⟩, hb⟩
  have bw1 := Lib.hid (hb)
  have Al1 := Lib.hid (Al0.out.next (hb))
  have Bl1 := Lib.hid (Bl0.out.next (hb))
  have Cl1 := Lib.hid (Cl0.out.next (hb))
  clear Al0 Bl0 Cl0
  have A1 := Lib.hid (hv.wide (lo' := 0) (Nat.zero_le _) (Nat.le_refl _))
  clear hv hb
  go_wp2_with fail
  clear Al1
  refine (limbs_l Bl1.out (Nat.le_refl _) (by omega)).mono ?_
  rw [← Hy.out]
  rintro e wB ⟨⟨vB, rfl, hv⟩, hb⟩
  have bw2 := Lib.hid (below_step bw1.out (hb))
  have Bl2 := Lib.hid (Bl1.out.next (hb))
  have Cl2 := Lib.hid (Cl1.out.next (hb))
  have A2 := Lib.hid (A1.out.next (hb))
  clear Bl1 Cl1 A1 bw1
  have B2 := Lib.hid (hv.wide (lo' := 0) (Nat.zero_le _) (Nat.le_refl _))
  clear hv hb
  go_wp2_with fail
  clear Bl2
  refine (limbs_l Cl2.out (Nat.le_refl _) (by omega)).mono ?_
  rw [← Hz.out]
  rintro e wC ⟨⟨vC, rfl, hv⟩, hb⟩
  have bw3 := Lib.hid (below_step bw2.out (hb))
  have Cl3 := Lib.hid (Cl2.out.next (hb))
  have A3 := Lib.hid (A2.out.next (hb))
  have B3 := Lib.hid (B2.out.next (hb))
  clear Cl2 A2 B2 bw2
  have C3 := Lib.hid (hv.wide (lo' := 0) (Nat.zero_le _) (Nat.le_refl _))
  clear hv hb
  go_wp2_with fail
  clear Cl3
  have hS1 : Hid ((lim (x + y)).length ≤ 21) := by unfold Hid; have := hA.out; have := hB.out; have := lim_len_add (x) (y); omega
  refine (sum_n A3.out B3.out (Nat.le_refl _) (Nat.le_refl _) (by have := hA.out; omega) (by have := hB.out; omega) (by have := hS1.out; omega)).mono ?_
  rintro e wS1 ⟨⟨vS1, rfl, hv⟩, hb⟩
  have bw4 := Lib.hid (below_step bw3.out (hb))
  have A4 := Lib.hid (A3.out.next (hb))
  have B4 := Lib.hid (B3.out.next (hb))
  have C4 := Lib.hid (C3.out.next (hb))
  clear A3 B3 C3 bw3
  have S14 := Lib.hid (hv.wide (lo' := 0) (Nat.zero_le _) (Nat.le_refl _))
  clear hv hb
  go_wp2_with fail
  have hS2 : Hid ((lim (y + x)).length ≤ 21) := by unfold Hid; have := hB.out; have := hA.out; have := lim_len_add (y) (x); omega
  refine (sum_n B4.out A4.out (Nat.le_refl _) (Nat.le_refl _) (by have := hB.out; omega) (by have := hA.out; omega) (by have := hS2.out; omega)).mono ?_
  rintro e wS2 ⟨⟨vS2, rfl, hv⟩, hb⟩
  have bw5 := Lib.hid (below_step bw4.out (hb))
  have A5 := Lib.hid (A4.out.next (hb))
  have B5 := Lib.hid (B4.out.next (hb))
  have C5 := Lib.hid (C4.out.next (hb))
  have S15 := Lib.hid (S14.out.next (hb))
  clear A4 B4 C4 S14 bw4
  have S25 := Lib.hid (hv.wide (lo' := 0) (Nat.zero_le _) (Nat.le_refl _))
  clear hv hb
  go_wp2_with fail
  refine (alike_n S15.out S25.out).mono ?_
  rw [decide_eq_true (Nat.add_comm x y)]
  rintro e wd5 ⟨rfl, hdr⟩
  have bw6 := Lib.hid (below_step bw5.out (hdr.below _))
  have A6 := Lib.hid (A5.out.next (hdr.below _))
  have B6 := Lib.hid (B5.out.next (hdr.below _))
  have C6 := Lib.hid (C5.out.next (hdr.below _))
  have S16 := Lib.hid (S15.out.next (hdr.below _))
  have S26 := Lib.hid (S25.out.next (hdr.below _))
  clear A5 B5 C5 S15 S25 bw5
  clear hdr
  go_wp2_with fail
  clear S16 S26
  have hP1 : Hid ((lim (x * y)).length ≤ 40) := by unfold Hid; have := hA.out; have := hB.out; have := lim_len_mul (x) (y); omega
  refine (product_n A6.out B6.out (Nat.le_refl _) (Nat.le_refl _) (by have := hA.out; omega) (by have := hB.out; omega) (by have := hP1.out; omega)).mono ?_
  rintro e wP1 ⟨⟨vP1, rfl, hv⟩, hb⟩
  have bw7 := Lib.hid (below_step bw6.out (hb))
  have A7 := Lib.hid (A6.out.next (hb))
  have B7 := Lib.hid (B6.out.next (hb))
  have C7 := Lib.hid (C6.out.next (hb))
  clear A6 B6 C6 bw6
  have P17 := Lib.hid (hv.wide (lo' := 0) (Nat.zero_le _) (Nat.le_refl _))
  clear hv hb
  go_wp2_with fail
  have hP2 : Hid ((lim (y * x)).length ≤ 40) := by unfold Hid; have := hB.out; have := hA.out; have := lim_len_mul (y) (x); omega
  refine (product_n B7.out A7.out (Nat.le_refl _) (Nat.le_refl _) (by have := hB.out; omega) (by have := hA.out; omega) (by have := hP2.out; omega)).mono ?_
  rintro e wP2 ⟨⟨vP2, rfl, hv⟩, hb⟩
  have bw8 := Lib.hid (below_step bw7.out (hb))
  have A8 := Lib.hid (A7.out.next (hb))
  have B8 := Lib.hid (B7.out.next (hb))
  have C8 := Lib.hid (C7.out.next (hb))
  have P18 := Lib.hid (P17.out.next (hb))
  clear A7 B7 C7 P17 bw7
  have P28 := Lib.hid (hv.wide (lo' := 0) (Nat.zero_le _) (Nat.le_refl _))
  clear hv hb
  go_wp2_with fail
  refine (alike_n P18.out P28.out).mono ?_
  rw [decide_eq_true (Nat.mul_comm x y)]
  rintro e wd8 ⟨rfl, hdr⟩
  have bw9 := Lib.hid (below_step bw8.out (hdr.below _))
  have A9 := Lib.hid (A8.out.next (hdr.below _))
  have B9 := Lib.hid (B8.out.next (hdr.below _))
  have C9 := Lib.hid (C8.out.next (hdr.below _))
  have P19 := Lib.hid (P18.out.next (hdr.below _))
  have P29 := Lib.hid (P28.out.next (hdr.below _))
  clear A8 B8 C8 P18 P28 bw8
  clear hdr
  go_wp2_with fail
  clear P19 P29
  have hS3 : Hid ((lim (x + y)).length ≤ 21) := by unfold Hid; have := hA.out; have := hB.out; have := lim_len_add (x) (y); omega
  refine (sum_n A9.out B9.out (Nat.le_refl _) (Nat.le_refl _) (by have := hA.out; omega) (by have := hB.out; omega) (by have := hS3.out; omega)).mono ?_
  rintro e wS3 ⟨⟨vS3, rfl, hv⟩, hb⟩
  have bw10 := Lib.hid (below_step bw9.out (hb))
  have A10 := Lib.hid (A9.out.next (hb))
  have B10 := Lib.hid (B9.out.next (hb))
  have C10 := Lib.hid (C9.out.next (hb))
  clear A9 B9 C9 bw9
  have S310 := Lib.hid (hv.wide (lo' := 0) (Nat.zero_le _) (Nat.le_refl _))
  clear hv hb
  go_wp2_with fail
  have hS4 : Hid ((lim ((x + y) + z)).length ≤ 22) := by unfold Hid; have := hS3.out; have := hC.out; have := lim_len_add (x + y) (z); omega
  refine (sum_n S310.out C10.out (Nat.le_refl _) (Nat.le_refl _) (by have := hS3.out; omega) (by have := hC.out; omega) (by have := hS4.out; omega)).mono ?_
  rintro e wS4 ⟨⟨vS4, rfl, hv⟩, hb⟩
  have bw11 := Lib.hid (below_step bw10.out (hb))
  have A11 := Lib.hid (A10.out.next (hb))
  have B11 := Lib.hid (B10.out.next (hb))
  have C11 := Lib.hid (C10.out.next (hb))
  have S311 := Lib.hid (S310.out.next (hb))
  clear A10 B10 C10 S310 bw10
  have S411 := Lib.hid (hv.wide (lo' := 0) (Nat.zero_le _) (Nat.le_refl _))
  clear hv hb
  go_wp2_with fail
  have hS5 : Hid ((lim (y + z)).length ≤ 21) := by unfold Hid; have := hB.out; have := hC.out; have := lim_len_add (y) (z); omega
  refine (sum_n B11.out C11.out (Nat.le_refl _) (Nat.le_refl _) (by have := hB.out; omega) (by have := hC.out; omega) (by have := hS5.out; omega)).mono ?_
  rintro e wS5 ⟨⟨vS5, rfl, hv⟩, hb⟩
  have bw12 := Lib.hid (below_step bw11.out (hb))
  have A12 := Lib.hid (A11.out.next (hb))
  have B12 := Lib.hid (B11.out.next (hb))
  have C12 := Lib.hid (C11.out.next (hb))
  have S312 := Lib.hid (S311.out.next (hb))
  have S412 := Lib.hid (S411.out.next (hb))
  clear A11 B11 C11 S311 S411 bw11
  have S512 := Lib.hid (hv.wide (lo' := 0) (Nat.zero_le _) (Nat.le_refl _))
  clear hv hb
  go_wp2_with fail
  have hS6 : Hid ((lim (x + (y + z))).length ≤ 22) := by unfold Hid; have := hA.out; have := hS5.out; have := lim_len_add (x) (y + z); omega
  refine (sum_n A12.out S512.out (Nat.le_refl _) (Nat.le_refl _) (by have := hA.out; omega) (by have := hS5.out; omega) (by have := hS6.out; omega)).mono ?_
  rintro e wS6 ⟨⟨vS6, rfl, hv⟩, hb⟩
  have bw13 := Lib.hid (below_step bw12.out (hb))
  have A13 := Lib.hid (A12.out.next (hb))
  have B13 := Lib.hid (B12.out.next (hb))
  have C13 := Lib.hid (C12.out.next (hb))
  have S313 := Lib.hid (S312.out.next (hb))
  have S413 := Lib.hid (S412.out.next (hb))
  have S513 := Lib.hid (S512.out.next (hb))
  clear A12 B12 C12 S312 S412 S512 bw12
  have S613 := Lib.hid (hv.wide (lo' := 0) (Nat.zero_le _) (Nat.le_refl _))
  clear hv hb
  go_wp2_with fail
  refine (alike_n S413.out S613.out).mono ?_
  rw [decide_eq_true (Nat.add_assoc x y z)]
  rintro e wd13 ⟨rfl, hdr⟩
  have bw14 := Lib.hid (below_step bw13.out (hdr.below _))
  have A14 := Lib.hid (A13.out.next (hdr.below _))
  have B14 := Lib.hid (B13.out.next (hdr.below _))
  have C14 := Lib.hid (C13.out.next (hdr.below _))
  have S314 := Lib.hid (S313.out.next (hdr.below _))
  have S414 := Lib.hid (S413.out.next (hdr.below _))
  have S514 := Lib.hid (S513.out.next (hdr.below _))
  have S614 := Lib.hid (S613.out.next (hdr.below _))
  clear A13 B13 C13 S313 S413 S513 S613 bw13
  clear hdr
  go_wp2_with fail
  clear S314 S414 S514 S614
  have hP3 : Hid ((lim (x * y)).length ≤ 40) := by unfold Hid; have := hA.out; have := hB.out; have := lim_len_mul (x) (y); omega
  refine (product_n A14.out B14.out (Nat.le_refl _) (Nat.le_refl _) (by have := hA.out; omega) (by have := hB.out; omega) (by have := hP3.out; omega)).mono ?_
  rintro e wP3 ⟨⟨vP3, rfl, hv⟩, hb⟩
  have bw15 := Lib.hid (below_step bw14.out (hb))
  have A15 := Lib.hid (A14.out.next (hb))
  have B15 := Lib.hid (B14.out.next (hb))
  have C15 := Lib.hid (C14.out.next (hb))
  clear A14 B14 C14 bw14
  have P315 := Lib.hid (hv.wide (lo' := 0) (Nat.zero_le _) (Nat.le_refl _))
  clear hv hb
  go_wp2_with fail
  have hP4 : Hid ((lim ((x * y) * z)).length ≤ 60) := by unfold Hid; have := hP3.out; have := hC.out; have := lim_len_mul (x * y) (z); omega
  refine (product_n P315.out C15.out (Nat.le_refl _) (Nat.le_refl _) (by have := hP3.out; omega) (by have := hC.out; omega) (by have := hP4.out; omega)).mono ?_
  rintro e wP4 ⟨⟨vP4, rfl, hv⟩, hb⟩
  have bw16 := Lib.hid (below_step bw15.out (hb))
  have A16 := Lib.hid (A15.out.next (hb))
  have B16 := Lib.hid (B15.out.next (hb))
  have C16 := Lib.hid (C15.out.next (hb))
  have P316 := Lib.hid (P315.out.next (hb))
  clear A15 B15 C15 P315 bw15
  have P416 := Lib.hid (hv.wide (lo' := 0) (Nat.zero_le _) (Nat.le_refl _))
  clear hv hb
  go_wp2_with fail
  have hP5 : Hid ((lim (y * z)).length ≤ 40) := by unfold Hid; have := hB.out; have := hC.out; have := lim_len_mul (y) (z); omega
  refine (product_n B16.out C16.out (Nat.le_refl _) (Nat.le_refl _) (by have := hB.out; omega) (by have := hC.out; omega) (by have := hP5.out; omega)).mono ?_
  rintro e wP5 ⟨⟨vP5, rfl, hv⟩, hb⟩
  have bw17 := Lib.hid (below_step bw16.out (hb))
  have A17 := Lib.hid (A16.out.next (hb))
  have B17 := Lib.hid (B16.out.next (hb))
  have C17 := Lib.hid (C16.out.next (hb))
  have P317 := Lib.hid (P316.out.next (hb))
  have P417 := Lib.hid (P416.out.next (hb))
  clear A16 B16 C16 P316 P416 bw16
  have P517 := Lib.hid (hv.wide (lo' := 0) (Nat.zero_le _) (Nat.le_refl _))
  clear hv hb
  go_wp2_with fail
  have hP6 : Hid ((lim (x * (y * z))).length ≤ 60) := by unfold Hid; have := hA.out; have := hP5.out; have := lim_len_mul (x) (y * z); omega
  refine (product_n A17.out P517.out (Nat.le_refl _) (Nat.le_refl _) (by have := hA.out; omega) (by have := hP5.out; omega) (by have := hP6.out; omega)).mono ?_
  rintro e wP6 ⟨⟨vP6, rfl, hv⟩, hb⟩
  have bw18 := Lib.hid (below_step bw17.out (hb))
  have A18 := Lib.hid (A17.out.next (hb))
  have B18 := Lib.hid (B17.out.next (hb))
  have C18 := Lib.hid (C17.out.next (hb))
  have P318 := Lib.hid (P317.out.next (hb))
  have P418 := Lib.hid (P417.out.next (hb))
  have P518 := Lib.hid (P517.out.next (hb))
  clear A17 B17 C17 P317 P417 P517 bw17
  have P618 := Lib.hid (hv.wide (lo' := 0) (Nat.zero_le _) (Nat.le_refl _))
  clear hv hb
  go_wp2_with fail
  refine (alike_n P418.out P618.out).mono ?_
  rw [decide_eq_true (Nat.mul_assoc x y z)]
  rintro e wd18 ⟨rfl, hdr⟩
  have bw19 := Lib.hid (below_step bw18.out (hdr.below _))
  have A19 := Lib.hid (A18.out.next (hdr.below _))
  have B19 := Lib.hid (B18.out.next (hdr.below _))
  have C19 := Lib.hid (C18.out.next (hdr.below _))
  have P319 := Lib.hid (P318.out.next (hdr.below _))
  have P419 := Lib.hid (P418.out.next (hdr.below _))
  have P519 := Lib.hid (P518.out.next (hdr.below _))
  have P619 := Lib.hid (P618.out.next (hdr.below _))
  clear A18 B18 C18 P318 P418 P518 P618 bw18
  clear hdr
  go_wp2_with fail
  clear P319 P419 P519 P619
  have hD1 : Hid ((lim (y + z)).length ≤ 21) := by unfold Hid; have := hB.out; have := hC.out; have := lim_len_add (y) (z); omega
  refine (sum_n B19.out C19.out (Nat.le_refl _) (Nat.le_refl _) (by have := hB.out; omega) (by have := hC.out; omega) (by have := hD1.out; omega)).mono ?_
  rintro e wD1 ⟨⟨vD1, rfl, hv⟩, hb⟩
  have bw20 := Lib.hid (below_step bw19.out (hb))
  have A20 := Lib.hid (A19.out.next (hb))
  have B20 := Lib.hid (B19.out.next (hb))
  have C20 := Lib.hid (C19.out.next (hb))
  clear A19 B19 C19 bw19
  have D120 := Lib.hid (hv.wide (lo' := 0) (Nat.zero_le _) (Nat.le_refl _))
  clear hv hb
  go_wp2_with fail
  have hD2 : Hid ((lim (x * (y + z))).length ≤ 41) := by unfold Hid; have := hA.out; have := hD1.out; have := lim_len_mul (x) (y + z); omega
  refine (product_n A20.out D120.out (Nat.le_refl _) (Nat.le_refl _) (by have := hA.out; omega) (by have := hD1.out; omega) (by have := hD2.out; omega)).mono ?_
  rintro e wD2 ⟨⟨vD2, rfl, hv⟩, hb⟩
  have bw21 := Lib.hid (below_step bw20.out (hb))
  have A21 := Lib.hid (A20.out.next (hb))
  have B21 := Lib.hid (B20.out.next (hb))
  have C21 := Lib.hid (C20.out.next (hb))
  have D121 := Lib.hid (D120.out.next (hb))
  clear A20 B20 C20 D120 bw20
  have D221 := Lib.hid (hv.wide (lo' := 0) (Nat.zero_le _) (Nat.le_refl _))
  clear hv hb
  go_wp2_with fail
  have hD3 : Hid ((lim (x * y)).length ≤ 40) := by unfold Hid; have := hA.out; have := hB.out; have := lim_len_mul (x) (y); omega
  refine (product_n A21.out B21.out (Nat.le_refl _) (Nat.le_refl _) (by have := hA.out; omega) (by have := hB.out; omega) (by have := hD3.out; omega)).mono ?_
  rintro e wD3 ⟨⟨vD3, rfl, hv⟩, hb⟩
  have bw22 := Lib.hid (below_step bw21.out (hb))
  have A22 := Lib.hid (A21.out.next (hb))
  have B22 := Lib.hid (B21.out.next (hb))
  have C22 := Lib.hid (C21.out.next (hb))
  have D122 := Lib.hid (D121.out.next (hb))
  have D222 := Lib.hid (D221.out.next (hb))
  clear A21 B21 C21 D121 D221 bw21
  have D322 := Lib.hid (hv.wide (lo' := 0) (Nat.zero_le _) (Nat.le_refl _))
  clear hv hb
  go_wp2_with fail
  have hD4 : Hid ((lim (x * z)).length ≤ 40) := by unfold Hid; have := hA.out; have := hC.out; have := lim_len_mul (x) (z); omega
  refine (product_n A22.out C22.out (Nat.le_refl _) (Nat.le_refl _) (by have := hA.out; omega) (by have := hC.out; omega) (by have := hD4.out; omega)).mono ?_
  rintro e wD4 ⟨⟨vD4, rfl, hv⟩, hb⟩
  have bw23 := Lib.hid (below_step bw22.out (hb))
  have A23 := Lib.hid (A22.out.next (hb))
  have B23 := Lib.hid (B22.out.next (hb))
  have C23 := Lib.hid (C22.out.next (hb))
  have D123 := Lib.hid (D122.out.next (hb))
  have D223 := Lib.hid (D222.out.next (hb))
  have D323 := Lib.hid (D322.out.next (hb))
  clear A22 B22 C22 D122 D222 D322 bw22
  have D423 := Lib.hid (hv.wide (lo' := 0) (Nat.zero_le _) (Nat.le_refl _))
  clear hv hb
  go_wp2_with fail
  have hD5 : Hid ((lim ((x * y) + (x * z))).length ≤ 41) := by unfold Hid; have := hD3.out; have := hD4.out; have := lim_len_add (x * y) (x * z); omega
  refine (sum_n D323.out D423.out (Nat.le_refl _) (Nat.le_refl _) (by have := hD3.out; omega) (by have := hD4.out; omega) (by have := hD5.out; omega)).mono ?_
  rintro e wD5 ⟨⟨vD5, rfl, hv⟩, hb⟩
  have bw24 := Lib.hid (below_step bw23.out (hb))
  have A24 := Lib.hid (A23.out.next (hb))
  have B24 := Lib.hid (B23.out.next (hb))
  have C24 := Lib.hid (C23.out.next (hb))
  have D124 := Lib.hid (D123.out.next (hb))
  have D224 := Lib.hid (D223.out.next (hb))
  have D324 := Lib.hid (D323.out.next (hb))
  have D424 := Lib.hid (D423.out.next (hb))
  clear A23 B23 C23 D123 D223 D323 D423 bw23
  have D524 := Lib.hid (hv.wide (lo' := 0) (Nat.zero_le _) (Nat.le_refl _))
  clear hv hb
  go_wp2_with fail
  refine (alike_n D224.out D524.out).mono ?_
  rw [decide_eq_true (Nat.mul_add x y z)]
  rintro e wd24 ⟨rfl, hdr⟩
  have bw25 := Lib.hid (below_step bw24.out (hdr.below _))
  have A25 := Lib.hid (A24.out.next (hdr.below _))
  have B25 := Lib.hid (B24.out.next (hdr.below _))
  have C25 := Lib.hid (C24.out.next (hdr.below _))
  have D125 := Lib.hid (D124.out.next (hdr.below _))
  have D225 := Lib.hid (D224.out.next (hdr.below _))
  have D325 := Lib.hid (D324.out.next (hdr.below _))
  have D425 := Lib.hid (D424.out.next (hdr.below _))
  have D525 := Lib.hid (D524.out.next (hdr.below _))
  clear A24 B24 C24 D124 D224 D324 D424 D524 bw24
  clear hdr
  go_wp2_with fail
  clear D125 D225 D325 D425 D525
  have hT1 : Hid ((lim (x + y)).length ≤ 21) := by unfold Hid; have := hA.out; have := hB.out; have := lim_len_add (x) (y); omega
  refine (sum_n A25.out B25.out (Nat.le_refl _) (Nat.le_refl _) (by have := hA.out; omega) (by have := hB.out; omega) (by have := hT1.out; omega)).mono ?_
  rintro e wT1 ⟨⟨vT1, rfl, hv⟩, hb⟩
  have bw26 := Lib.hid (below_step bw25.out (hb))
  have A26 := Lib.hid (A25.out.next (hb))
  have B26 := Lib.hid (B25.out.next (hb))
  have C26 := Lib.hid (C25.out.next (hb))
  clear A25 B25 C25 bw25
  have T126 := Lib.hid (hv.wide (lo' := 0) (Nat.zero_le _) (Nat.le_refl _))
  clear hv hb
  go_wp2_with fail
  refine (nsub_n T126.out B26.out (Nat.le_refl _) (Nat.le_refl _) (by have := hT1.out; omega) (by have := hB.out; omega) (by omega)).mono ?_
  rw [Nat.add_sub_cancel]
  rintro e wK ⟨⟨vK, rfl, hv⟩, hb⟩
  have bw27 := Lib.hid (below_step bw26.out (hb))
  have A27 := Lib.hid (A26.out.next (hb))
  have B27 := Lib.hid (B26.out.next (hb))
  have C27 := Lib.hid (C26.out.next (hb))
  have T127 := Lib.hid (T126.out.next (hb))
  clear A26 B26 C26 T126 bw26
  have K27 := Lib.hid (hv.wide (lo' := 0) (Nat.zero_le _) (Nat.le_refl _))
  clear hv hb
  go_wp2_with fail
  clear T127
  refine (mod_n _ i 21 hiR.out.1 hiR.out.2 (by omega) (by omega)).mono ?_
  have ei0 := Int.emod_nonneg i (show (21 : Int) ≠ 0 by omega)
  have ei1 := Int.emod_lt_of_pos i (show (0 : Int) < 21 by omega)
  generalize i % 21 = mi at *
  rintro e wqi ⟨rfl, rfl⟩
  go_wp2_with fail
  refine (mod_n _ j 21 hjR.out.1 hjR.out.2 (by omega) (by omega)).mono ?_
  have ej0 := Int.emod_nonneg j (show (21 : Int) ≠ 0 by omega)
  have ej1 := Int.emod_lt_of_pos j (show (0 : Int) < 21 by omega)
  generalize j % 21 = mj at *
  rintro e wqj ⟨rfl, rfl⟩
  go_wp2_with fail
  have hX : Hid ((lim (x ^ Int.toNat mi)).length ≤ 401) := by unfold Hid; exact sz_pow20 (m := 20) hA.out (by omega)
  refine (npow_n mi A27.out (Nat.le_refl _) (by have := hA.out; omega) (by omega) (by omega) (by have := hX.out; omega)).mono ?_
  rintro e wX ⟨⟨vX, rfl, hv⟩, hb⟩
  have bw28 := Lib.hid (below_step bw27.out (hb))
  have A28 := Lib.hid (A27.out.next (hb))
  have B28 := Lib.hid (B27.out.next (hb))
  have C28 := Lib.hid (C27.out.next (hb))
  have K28 := Lib.hid (K27.out.next (hb))
  clear A27 B27 C27 K27 bw27
  have X28 := Lib.hid (hv.wide (lo' := 0) (Nat.zero_le _) (Nat.le_refl _))
  clear hv hb
  go_wp2_with fail
  have hY : Hid ((lim (x ^ Int.toNat mj)).length ≤ 401) := by unfold Hid; exact sz_pow20 (m := 20) hA.out (by omega)
  refine (npow_n mj A28.out (Nat.le_refl _) (by have := hA.out; omega) (by omega) (by omega) (by have := hY.out; omega)).mono ?_
  rintro e wY ⟨⟨vY, rfl, hv⟩, hb⟩
  have bw29 := Lib.hid (below_step bw28.out (hb))
  have A29 := Lib.hid (A28.out.next (hb))
  have B29 := Lib.hid (B28.out.next (hb))
  have C29 := Lib.hid (C28.out.next (hb))
  have K29 := Lib.hid (K28.out.next (hb))
  have X29 := Lib.hid (X28.out.next (hb))
  clear A28 B28 C28 K28 X28 bw28
  have Y29 := Lib.hid (hv.wide (lo' := 0) (Nat.zero_le _) (Nat.le_refl _))
  clear hv hb
  go_wp2_with fail
  have hZ : Hid ((lim (x ^ Int.toNat (mi + mj))).length ≤ 801) := by unfold Hid; exact sz_pow20 (m := 40) hA.out (by omega)
  refine (npow_n (mi + mj) A29.out (Nat.le_refl _) (by have := hA.out; omega) (by omega) (by omega) (by have := hZ.out; omega)).mono ?_
  rintro e wZ ⟨⟨vZ, rfl, hv⟩, hb⟩
  have bw30 := Lib.hid (below_step bw29.out (hb))
  have A30 := Lib.hid (A29.out.next (hb))
  have B30 := Lib.hid (B29.out.next (hb))
  have C30 := Lib.hid (C29.out.next (hb))
  have K30 := Lib.hid (K29.out.next (hb))
  have X30 := Lib.hid (X29.out.next (hb))
  have Y30 := Lib.hid (Y29.out.next (hb))
  clear A29 B29 C29 K29 X29 Y29 bw29
  have Z30 := Lib.hid (hv.wide (lo' := 0) (Nat.zero_le _) (Nat.le_refl _))
  clear hv hb
  go_wp2_with fail
  refine (alike_n K30.out A30.out).mono ?_
  rw [decide_eq_true (rfl)]
  rintro e wd30 ⟨rfl, hdr⟩
  have bw31 := Lib.hid (below_step bw30.out (hdr.below _))
  have A31 := Lib.hid (A30.out.next (hdr.below _))
  have B31 := Lib.hid (B30.out.next (hdr.below _))
  have C31 := Lib.hid (C30.out.next (hdr.below _))
  have K31 := Lib.hid (K30.out.next (hdr.below _))
  have X31 := Lib.hid (X30.out.next (hdr.below _))
  have Y31 := Lib.hid (Y30.out.next (hdr.below _))
  have Z31 := Lib.hid (Z30.out.next (hdr.below _))
  clear A30 B30 C30 K30 X30 Y30 Z30 bw30
  clear hdr
  go_wp2_with fail
  clear K31
  have hQ : Hid ((lim ((x ^ Int.toNat mi) * (x ^ Int.toNat mj))).length ≤ 802) := by unfold Hid; have := hX.out; have := hY.out; have := lim_len_mul (x ^ Int.toNat mi) (x ^ Int.toNat mj); omega
  refine (product_n X31.out Y31.out (Nat.le_refl _) (Nat.le_refl _) (by have := hX.out; omega) (by have := hY.out; omega) (by have := hQ.out; omega)).mono ?_
  rintro e wQ ⟨⟨vQ, rfl, hv⟩, hb⟩
  have bw32 := Lib.hid (below_step bw31.out (hb))
  have A32 := Lib.hid (A31.out.next (hb))
  have B32 := Lib.hid (B31.out.next (hb))
  have C32 := Lib.hid (C31.out.next (hb))
  have X32 := Lib.hid (X31.out.next (hb))
  have Y32 := Lib.hid (Y31.out.next (hb))
  have Z32 := Lib.hid (Z31.out.next (hb))
  clear A31 B31 C31 X31 Y31 Z31 bw31
  have Q32 := Lib.hid (hv.wide (lo' := 0) (Nat.zero_le _) (Nat.le_refl _))
  clear hv hb
  go_wp2_with fail
  refine (alike_n Q32.out Z32.out).mono ?_
  rw [decide_eq_true (pow_toNat (by omega) (by omega))]
  rintro e wd32 ⟨rfl, hdr⟩
  have bw33 := Lib.hid (below_step bw32.out (hdr.below _))
  have A33 := Lib.hid (A32.out.next (hdr.below _))
  have B33 := Lib.hid (B32.out.next (hdr.below _))
  have C33 := Lib.hid (C32.out.next (hdr.below _))
  have X33 := Lib.hid (X32.out.next (hdr.below _))
  have Y33 := Lib.hid (Y32.out.next (hdr.below _))
  have Z33 := Lib.hid (Z32.out.next (hdr.below _))
  have Q33 := Lib.hid (Q32.out.next (hdr.below _))
  clear A32 B32 C32 X32 Y32 Z32 Q32 bw32
  clear hdr
  go_wp2_with fail
  clear Q33 X33 Y33 Z33
  have hO : Hid ((lim 1).length ≤ 1) := sz_one
  refine (product_n (A33.out.more _) (lit_one0 _ _) (by simp) (Nat.le_refl _) (by have := hA.out; omega) (by have := hO.out; omega) (by rw [Nat.mul_one]; have := hA.out; omega)).mono ?_
  rw [Nat.mul_one]
  rintro e wO ⟨⟨vO, rfl, hv⟩, hb⟩
  have bwO := Lib.hid (below_step (below_stepA bw33.out _) hb)
  have AO := Lib.hid ((A33.out.more _).next hb)
  have RO := Lib.hid (hv.wide (lo' := 0) (Nat.zero_le _) (Nat.le_refl _))
  clear hv hb A33 bw33 B33 C33
  go_wp2_with fail
  refine (alike_n RO.out AO.out).mono ?_
  rw [decide_eq_true rfl]
  rintro e wd ⟨rfl, hdr⟩
  go_wp2_with fail
  refine (awake_true _).mono ?_
  rintro e w8 ⟨rfl, hb8⟩
  go_wp2_with fail
  go_ret
  exact ⟨rfl, below_step (below_step bwO.out (hdr.below _)) hb8⟩

theorem wf_i64 {n : Int} (h : (Lit.int .i64 n).wf = true) : -9223372036854775808 ≤ n ∧ n ≤ 9223372036854775807 := by
  rw [Lit.wf, Bool.and_eq_true, decide_eq_true_eq, decide_eq_true_eq] at h
  exact h

theorem law_ring {w : World} {va vb vc : Value} {a b c : List Nat} (ha : IsL .u32 w 0 w.heap.size va a) (hb : IsL .u32 w 0 w.heap.size vb b) (hc : IsL .u32 w 0 w.heap.size vc c) (i : Int) (hi : (Lit.int .i64 i).wf = true) (j : Int) (hj : (Lit.int .i64 j).wf = true) :
    Calls Try.prog 5 #[va, vb, vc, .int .i64 i, .int .i64 j] w fun e w' => e = .returned (.bool true) ∧ Below w.heap.size w w' := by
  rcases Nat.lt_or_ge 20 a.length with h1 | h1
  · exact law_ring_out ha hb hc i j (.inl h1)
  · rcases Nat.lt_or_ge 20 b.length with h2 | h2
    · exact law_ring_out ha hb hc i j (.inr (.inl ⟨h1, h2⟩))
    · rcases Nat.lt_or_ge 20 c.length with h3 | h3
      · exact law_ring_out ha hb hc i j (.inr (.inr ⟨h1, h2, h3⟩))
      · exact law_ring_in ha hb hc i j (wf_i64 hi).1 (wf_i64 hi).2 (wf_i64 hj).1 (wf_i64 hj).2 h1 h2 h3
end Go.Proofs.Ytbeocfiimminiaa
