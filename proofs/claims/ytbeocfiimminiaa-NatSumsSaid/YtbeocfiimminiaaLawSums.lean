/-
  The walk of the law NatSums.
-/
import Derived.Test.YtbeocfiimminiaaAdd
import Derived.Test.YtbeocfiimminiaaPowR
namespace Go.Proofs.Ytbeocfiimminiaa
open Go.RowKit
set_option linter.unusedVariables false

theorem IsL.nextB {k : IntKind} {w w' : World} {v : Value} {l : List Nat} {lo : Nat} (h : IsL k w lo w.heap.size v l) (hb : Below w.heap.size w w') : IsL k w' 0 w'.heap.size v l := h.next hb


set_option maxRecDepth 100000 in
set_option maxHeartbeats 2000000 in
theorem law_sums_out {w : World} {va vb : Value} {a b : List Nat} (ha : IsL .u32 w 0 w.heap.size va a) (hb : IsL .u32 w 0 w.heap.size vb b) (n : Int) (h : lng a.length 60 = true ∨ (lng a.length 60 = false ∧ lng b.length 60 = true) ∨ (lng a.length 60 = false ∧ lng b.length 60 = false ∧ 0 < n ∧ n ≤ 10000 ∧ 2000 < n * (a.length : Int))) :
    Calls Try.prog 4 #[va, vb, .int .i64 n] w fun e w' => e = .returned (.bool true) ∧ Below w.heap.size w w' := by
  rcases h with h1 | ⟨h1, h2⟩ | ⟨h1, h2, h3, h4, h5⟩
  · have Ha := Lib.hid ha
    have Hb := Lib.hid hb
    obtain ⟨A, c, rfl, _, _, hA⟩ := ha
    obtain ⟨B, d, rfl, _, _, hB⟩ := hb
    have H1 := Lib.hid h1
    clear h1

    go_enter Try.func4, Try.ntmps4
    go_wp2_with fail
    refine (long_l 60 Ha.out).mono ?_
    rw [H1.out]
    rintro e w1 ⟨rfl, rfl⟩
    go_wp2_with fail
    refine (awake_true w).mono ?_
    rintro e w1 ⟨rfl, hb⟩
    go_wp2_with fail
    go_ret
    exact ⟨rfl, hb⟩
  · have Ha := Lib.hid ha
    have Hb := Lib.hid hb
    obtain ⟨A, c, rfl, _, _, hA⟩ := ha
    obtain ⟨B, d, rfl, _, _, hB⟩ := hb
    have H1 := Lib.hid h1
    have H2 := Lib.hid h2
    clear h1 h2

    go_enter Try.func4, Try.ntmps4
    go_wp2_with fail
    refine (long_l 60 Ha.out).mono ?_
    rw [H1.out]
    rintro e w1 ⟨rfl, rfl⟩
    go_wp2_with fail
    refine (long_l 60 Hb.out).mono ?_
    rw [H2.out]
    rintro e w1 ⟨rfl, rfl⟩
    go_wp2_with fail
    refine (awake_true w).mono ?_
    rintro e w1 ⟨rfl, hb⟩
    go_wp2_with fail
    go_ret
    exact ⟨rfl, hb⟩
  · have Ha := Lib.hid ha
    have Hb := Lib.hid hb
    have hal : a.length ≤ 1100 := by
      unfold lng at h1
      simp at h1
      omega
    have hn0 : 0 ≤ n * (a.length : Int) := Int.mul_nonneg (by omega) (by omega)
    have hn1 : n * (a.length : Int) ≤ 11000000 := Int.le_trans (Int.mul_le_mul h4 (show (a.length : Int) ≤ 1100 by omega) (by omega) (by omega)) (by omega)
    obtain ⟨A, c, rfl, _, _, hA⟩ := ha
    obtain ⟨B, d, rfl, _, _, hB⟩ := hb
    have H1 := Lib.hid h1
    have H2 := Lib.hid h2
    clear h1 h2

    go_enter Try.func4, Try.ntmps4
    go_wp2_with fail
    refine (long_l 60 Ha.out).mono ?_
    rw [H1.out]
    rintro e w1 ⟨rfl, rfl⟩
    go_wp2_with fail
    refine (long_l 60 Hb.out).mono ?_
    rw [H2.out]
    rintro e w1 ⟨rfl, rfl⟩
    go_wp2_with fail
    refine (awake_true w).mono ?_
    rintro e w1 ⟨rfl, hb⟩
    go_wp2_with fail
    go_ret
    exact ⟨rfl, hb⟩

set_option maxRecDepth 100000 in
set_option maxHeartbeats 4000000 in
theorem law_sums_in {w : World} {va vb : Value} {a b : List Nat} (ha : IsL .u32 w 0 w.heap.size va a) (hb : IsL .u32 w 0 w.heap.size vb b) (n : Int) (h1 : lng a.length 60 = false) (h2 : lng b.length 60 = false) (hc : n ≤ 0 ∨ 10000 < n ∨ (0 < n ∧ n ≤ 10000 ∧ n * (a.length : Int) ≤ 2000)) :
    Calls Try.prog 4 #[va, vb, .int .i64 n] w fun e w' => e = .returned (.bool true) ∧ Below w.heap.size w w' := by
  have hal : a.length ≤ 1100 := by
    unfold lng at h1
    simp at h1
    omega
  have hbl : b.length ≤ 1100 := by
    unfold lng at h2
    simp at h2
    omega
  have Ha := Lib.hid ha
  have Hb := Lib.hid hb
  obtain ⟨A, c, rfl, _, _, hA⟩ := ha
  obtain ⟨B, d, rfl, _, _, hB⟩ := hb
  have H1 := Lib.hid h1
  have H2 := Lib.hid h2
  have hAl := Lib.hid hA
  have hBl := Lib.hid hB
  clear h1 h2 hA hB
  have hcase : n ≤ 0 ∨ (0 < n ∧ 10000 < n) ∨ (0 < n ∧ n ≤ 10000 ∧ n * (a.length : Int) ≤ 2000 ∧ 0 ≤ n * (a.length : Int)) := by
    rcases hc with h | h | ⟨h, h', h''⟩
    · exact .inl h
    · exact .inr (.inl ⟨by omega, h⟩)
    · exact .inr (.inr ⟨h, h', h'', Int.mul_nonneg (by omega) (by omega)⟩)
  clear hc
  rcases hcase with h | ⟨h, h'⟩ | ⟨h, h', h'', h3⟩
  all_goals
    go_enter Try.func4, Try.ntmps4
    go_wp2_with fail
    refine (long_l 60 Ha.out).mono ?_
    rw [H1.out]
    rintro e w1 ⟨rfl, rfl⟩
    go_wp2_with fail
    refine (long_l 60 Hb.out).mono ?_
    rw [H2.out]
    rintro e w1 ⟨rfl, rfl⟩
    go_wp2_with (first
      | (at_builtin; refine wp_appN elN rfl _ _ rfl rfl (own_empty w 23 30) rfl (cel_length _ _) (hAl.out.alloc (Nat.le_refl _) _) (cel_one _ _) (by simp only [List.length_nil]; omega) (by simp) ?_; intro v1 w1 hown1 hb1 hz1; have hbA : Below w.heap.size w w1 := ((Below.refl _ w).alloc (Nat.le_refl _) _).trans hb1; have V1 := Lib.hid (Own.isL (show Own w1 _ _ _ (cel .u32 a) by simpa using hown1)); clear hown1 hb1 hz1)
      | (at_builtin; refine wp_appN elN rfl _ _ rfl rfl (own_empty w1 23 30) rfl (cel_length _ _) ((hBl.out.below hbA (Nat.le_refl _)).alloc hbA.size _) (cel_one _ _) (by simp only [List.length_nil]; omega) (by simp) ?_; intro v2 w2 hown2 hb2 hz2; have hbB : Below w1.heap.size w1 w2 := ((Below.refl _ w1).alloc (Nat.le_refl _) _).trans hb2; have V2 := Lib.hid (Own.isL (show Own w2 _ _ _ (cel .u32 b) by simpa using hown2)); clear hown2 hb2 hz2))
    have hbw := Lib.hid (below_step hbA hbB)
    have A1 := Lib.hid (Ha.out.next hbw.out)
    have B1 := Lib.hid (Hb.out.next hbw.out)
    have U1 := Lib.hid (V1.out.next hbB)
    have W1 := Lib.hid (V2.out.wide (Nat.zero_le _) (Nat.le_refl _))
    clear hbA hbB V1 V2 Ha Hb hAl hBl

    refine (nadd_l U1.out W1.out (Nat.le_refl _) (Nat.le_refl _)).mono ?_
    rintro e wn ⟨⟨x, rfl, hx⟩, hb⟩
    have bw2 := Lib.hid (below_step hbw.out hb)
    have A2 := Lib.hid (A1.out.next hb)
    have B2 := Lib.hid (B1.out.next hb)
    have U2 := Lib.hid (U1.out.next hb)
    have W2 := Lib.hid (W1.out.next hb)
    clear hbw A1 B1 U1 W1 hb
    have X2 := Lib.hid (hx.wide (lo' := 0) (Nat.zero_le _) (Nat.le_refl _))
    clear hx
    go_wp2_with fail
    refine (radd_l A2.out B2.out (Nat.le_refl _) (Nat.le_refl _)).mono ?_
    rintro e wm ⟨⟨y, rfl, hy⟩, hb⟩
    have bw3 := Lib.hid (below_step bw2.out hb)
    have A3 := Lib.hid (A2.out.next hb)
    have B3 := Lib.hid (B2.out.next hb)
    have U3 := Lib.hid (U2.out.next hb)
    have W3 := Lib.hid (W2.out.next hb)
    have X3 := Lib.hid (X2.out.next hb)
    clear bw2 A2 B2 U2 W2 X2 hb
    have Y3 := Lib.hid (hy.wide (lo' := 0) (Nat.zero_le _) (Nat.le_refl _))
    clear hy
    go_wp2_with fail
    refine (alike_n X3.out Y3.out).mono ?_
    rw [decide_eq_true rfl]
    rintro e wd ⟨rfl, hdr⟩
    clear X3 Y3
    have bw4 := Lib.hid (below_step bw3.out (hdr.below _))
    have A4 := Lib.hid (A3.out.next (hdr.below _))
    have B4 := Lib.hid (B3.out.next (hdr.below _))
    have U4 := Lib.hid (U3.out.next (hdr.below _))
    have W4 := Lib.hid (W3.out.next (hdr.below _))
    clear bw3 A3 B3 U3 W3 hdr
    go_wp2_with fail
    refine (nsub_l U4.out W4.out (Nat.le_refl _) (Nat.le_refl _)).mono ?_
    rintro e wn ⟨⟨x, rfl, hx⟩, hb⟩
    have bw5 := Lib.hid (below_step bw4.out hb)
    have A5 := Lib.hid (A4.out.next hb)
    have B5 := Lib.hid (B4.out.next hb)
    have U5 := Lib.hid (U4.out.next hb)
    have W5 := Lib.hid (W4.out.next hb)
    clear bw4 A4 B4 U4 W4 hb
    have X5 := Lib.hid (hx.wide (lo' := 0) (Nat.zero_le _) (Nat.le_refl _))
    clear hx
    go_wp2_with fail
    refine (rsub_l A5.out B5.out (Nat.le_refl _) (Nat.le_refl _)).mono ?_
    rintro e wm ⟨⟨y, rfl, hy⟩, hb⟩
    have bw6 := Lib.hid (below_step bw5.out hb)
    have A6 := Lib.hid (A5.out.next hb)
    have B6 := Lib.hid (B5.out.next hb)
    have U6 := Lib.hid (U5.out.next hb)
    have W6 := Lib.hid (W5.out.next hb)
    have X6 := Lib.hid (X5.out.next hb)
    clear bw5 A5 B5 U5 W5 X5 hb
    have Y6 := Lib.hid (hy.wide (lo' := 0) (Nat.zero_le _) (Nat.le_refl _))
    clear hy
    go_wp2_with fail
    refine (alike_n X6.out Y6.out).mono ?_
    rw [decide_eq_true rfl]
    rintro e wd ⟨rfl, hdr⟩
    clear X6 Y6
    have bw7 := Lib.hid (below_step bw6.out (hdr.below _))
    have A7 := Lib.hid (A6.out.next (hdr.below _))
    have B7 := Lib.hid (B6.out.next (hdr.below _))
    have U7 := Lib.hid (U6.out.next (hdr.below _))
    have W7 := Lib.hid (W6.out.next (hdr.below _))
    clear bw6 A6 B6 U6 W6 hdr
    go_wp2_with fail
    refine (nmul_l U7.out W7.out (Nat.le_refl _) (Nat.le_refl _)).mono ?_
    rintro e wn ⟨⟨x, rfl, hx⟩, hb⟩
    have bw8 := Lib.hid (below_step bw7.out hb)
    have A8 := Lib.hid (A7.out.next hb)
    have B8 := Lib.hid (B7.out.next hb)
    have U8 := Lib.hid (U7.out.next hb)
    have W8 := Lib.hid (W7.out.next hb)
    clear bw7 A7 B7 U7 W7 hb
    have X8 := Lib.hid (hx.wide (lo' := 0) (Nat.zero_le _) (Nat.le_refl _))
    clear hx
    go_wp2_with fail
    refine (rmul_l A8.out B8.out (Nat.le_refl _) (Nat.le_refl _)).mono ?_
    rintro e wm ⟨⟨y, rfl, hy⟩, hb⟩
    have bw9 := Lib.hid (below_step bw8.out hb)
    have A9 := Lib.hid (A8.out.next hb)
    have B9 := Lib.hid (B8.out.next hb)
    have U9 := Lib.hid (U8.out.next hb)
    have W9 := Lib.hid (W8.out.next hb)
    have X9 := Lib.hid (X8.out.next hb)
    clear bw8 A8 B8 U8 W8 X8 hb
    have Y9 := Lib.hid (hy.wide (lo' := 0) (Nat.zero_le _) (Nat.le_refl _))
    clear hy
    go_wp2_with fail
    refine (alike_n X9.out Y9.out).mono ?_
    rw [decide_eq_true rfl]
    rintro e wd ⟨rfl, hdr⟩
    clear X9 Y9
    have bw10 := Lib.hid (below_step bw9.out (hdr.below _))
    have A10 := Lib.hid (A9.out.next (hdr.below _))
    have B10 := Lib.hid (B9.out.next (hdr.below _))
    have U10 := Lib.hid (U9.out.next (hdr.below _))
    have W10 := Lib.hid (W9.out.next (hdr.below _))
    clear bw9 A9 B9 U9 W9 hdr
    go_wp2_with fail
    refine (npow_l n U10.out (Nat.le_refl _)).mono ?_
    rintro e wn ⟨⟨x, rfl, hx⟩, hb⟩
    have bw11 := Lib.hid (below_step bw10.out hb)
    have A11 := Lib.hid (A10.out.next hb)
    have B11 := Lib.hid (B10.out.next hb)
    have U11 := Lib.hid (U10.out.next hb)
    have W11 := Lib.hid (W10.out.next hb)
    clear bw10 A10 B10 U10 W10 hb
    have X11 := Lib.hid (hx.wide (lo' := 0) (Nat.zero_le _) (Nat.le_refl _))
    clear hx
    go_wp2_with fail
    refine (rpow_l n A11.out (Nat.le_refl _)).mono ?_
    rintro e wm ⟨⟨y, rfl, hy⟩, hb⟩
    have bw12 := Lib.hid (below_step bw11.out hb)
    have A12 := Lib.hid (A11.out.next hb)
    have B12 := Lib.hid (B11.out.next hb)
    have U12 := Lib.hid (U11.out.next hb)
    have W12 := Lib.hid (W11.out.next hb)
    have X12 := Lib.hid (X11.out.next hb)
    clear bw11 A11 B11 U11 W11 X11 hb
    have Y12 := Lib.hid (hy.wide (lo' := 0) (Nat.zero_le _) (Nat.le_refl _))
    clear hy
    go_wp2_with fail
    refine (alike_n X12.out Y12.out).mono ?_
    rw [decide_eq_true rfl]
    rintro e wd ⟨rfl, hdr⟩
    clear X12 Y12
    have bw13 := Lib.hid (below_step bw12.out (hdr.below _))
    have A13 := Lib.hid (A12.out.next (hdr.below _))
    have B13 := Lib.hid (B12.out.next (hdr.below _))
    have U13 := Lib.hid (U12.out.next (hdr.below _))
    have W13 := Lib.hid (W12.out.next (hdr.below _))
    clear bw12 A12 B12 U12 W12 hdr
    go_wp2_with fail
    refine (alike_l U13.out A13.out).mono ?_
    rw [decide_eq_true rfl]
    rintro e wd ⟨rfl, hdr⟩
    have bw14 := Lib.hid (below_step bw13.out (hdr.below _))
    have A14 := Lib.hid (A13.out.next (hdr.below _))
    have B14 := Lib.hid (B13.out.next (hdr.below _))
    have U14 := Lib.hid (U13.out.next (hdr.below _))
    have W14 := Lib.hid (W13.out.next (hdr.below _))
    clear bw13 A13 B13 U13 W13 hdr
    go_wp2_with fail
    refine (alike_l W14.out B14.out).mono ?_
    rw [decide_eq_true rfl]
    rintro e wd ⟨rfl, hdr⟩
    have bwz := Lib.hid (below_step bw14.out (hdr.below _))
    clear bw14 A14 B14 U14 W14 hdr
    go_wp2_with fail
    refine (awake_true _).mono ?_
    rintro e w8 ⟨rfl, hb8⟩
    go_wp2_with fail
    go_ret
    exact ⟨rfl, below_step bwz.out hb8⟩

theorem law_sums {w : World} {va vb : Value} {a b : List Nat} (ha : IsL .u32 w 0 w.heap.size va a) (hb : IsL .u32 w 0 w.heap.size vb b) (n : Int) (hn : (Lit.int .i64 n).wf = true) :
    Calls Try.prog 4 #[va, vb, .int .i64 n] w fun e w' => e = .returned (.bool true) ∧ Below w.heap.size w w' := by
  cases h1 : lng a.length 60 with
  | true => exact law_sums_out ha hb n (.inl h1)
  | false =>
    cases h2 : lng b.length 60 with
    | true => exact law_sums_out ha hb n (.inr (.inl ⟨h1, h2⟩))
    | false =>
      by_cases h : 0 < n ∧ n ≤ 10000 ∧ 2000 < n * (a.length : Int)
      · exact law_sums_out ha hb n (.inr (.inr ⟨h1, h2, h.1, h.2.1, h.2.2⟩))
      · refine law_sums_in ha hb n h1 h2 ?_
        rcases Int.lt_or_le 0 n with h3 | h3
        · rcases Int.lt_or_le 10000 n with h4 | h4
          · exact .inr (.inl h4)
          · refine .inr (.inr ⟨h3, h4, ?_⟩)
            rcases Int.lt_or_le 2000 (n * (a.length : Int)) with h5 | h5
            · exact absurd ⟨h3, h4, h5⟩ h
            · exact h5
        · exact .inl h3
end Go.Proofs.Ytbeocfiimminiaa
