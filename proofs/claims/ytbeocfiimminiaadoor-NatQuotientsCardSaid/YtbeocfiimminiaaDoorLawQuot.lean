/-
  The walk of the law NatQuotients.
-/
import Derived.Test.YtbeocfiimminiaaDoorRQuot
import Derived.Test.YtbeocfiimminiaaDoorNGcd
import Derived.Test.YtbeocfiimminiaaDoorKitA
import Derived.Test.YtbeocfiimminiaaDoorAwake
import Derived.Test.YtbeocfiimminiaaDoorFit
namespace Go.Proofs.YtbeocfiimminiaaDoor
open Go.RowKit
set_option linter.unusedVariables false

set_option maxHeartbeats 400000 in
theorem law_quot_out {w : World} {va vb : Value} {a b : List Nat} (ha : IsL .u32 w 0 w.heap.size va a) (hb : IsL .u32 w 0 w.heap.size vb b) (h : lng a.length 30 = true ∨ (lng a.length 30 = false ∧ lng b.length 30 = true)) :
    Calls Tryd.prog 5 #[va, vb] w fun e w' => e = .returned (.bool true) ∧ Below w.heap.size w w' := by
  have Ha := Lib.hid ha
  have Hb := Lib.hid hb
  obtain ⟨A, c, rfl, _, _, hA⟩ := ha
  obtain ⟨B, d, rfl, _, _, hB⟩ := hb
  rcases h with h1 | ⟨h1, h2⟩
  · have H1 := Lib.hid h1
    clear h1
    go_enter Tryd.func5, Tryd.ntmps5
    go_wp2_with fail
    refine (long_l 30 Ha.out).mono ?_
    rw [H1.out]
    rintro e w1 ⟨rfl, rfl⟩
    go_wp2_with fail
    refine (awake_true w).mono ?_
    rintro e w1 ⟨rfl, hb⟩
    go_wp2_with fail
    go_ret
    exact ⟨rfl, hb⟩
  · have H1 := Lib.hid h1
    have H2 := Lib.hid h2
    clear h1 h2
    go_enter Tryd.func5, Tryd.ntmps5
    go_wp2_with fail
    refine (long_l 30 Ha.out).mono ?_
    rw [H1.out]
    rintro e w1 ⟨rfl, rfl⟩
    go_wp2_with fail
    refine (long_l 30 Hb.out).mono ?_
    rw [H2.out]
    rintro e w1 ⟨rfl, rfl⟩
    go_wp2_with fail
    refine (awake_true w).mono ?_
    rintro e w1 ⟨rfl, hb⟩
    go_wp2_with fail
    go_ret
    exact ⟨rfl, hb⟩

set_option maxRecDepth 100000 in
set_option maxHeartbeats 2000000 in
theorem law_quot_in {w : World} {va vb : Value} {a b : List Nat} (ha : IsL .u32 w 0 w.heap.size va a) (hb : IsL .u32 w 0 w.heap.size vb b) (hT : Bru w) (h1 : lng a.length 30 = false) (h2 : lng b.length 30 = false) :
    Calls Tryd.prog 5 #[va, vb] w fun e w' => e = .returned (.bool true) ∧ Below w.heap.size w w' := by
  have hal : a.length ≤ 1100 := by
    unfold lng at h1
    simp at h1
    omega
  have hbl : b.length ≤ 1100 := by
    unfold lng at h2
    simp at h2
    omega
  have Ha := Lib.hid ha
  have Hb := Lib.hid hb
  have HT := Lib.hid hT
  obtain ⟨A, c, rfl, _, _, hA⟩ := ha
  obtain ⟨B, d, rfl, _, _, hB⟩ := hb
  have H1 := Lib.hid h1
  have H2 := Lib.hid h2
  have hAl := Lib.hid hA
  have hBl := Lib.hid hB
  clear h1 h2 hA hB hT
  go_enter Tryd.func5, Tryd.ntmps5
  go_wp2_with fail
  refine (long_l 30 Ha.out).mono ?_
  rw [H1.out]
  rintro e w1 ⟨rfl, rfl⟩
  go_wp2_with fail
  refine (long_l 30 Hb.out).mono ?_
  rw [H2.out]
  rintro e w1 ⟨rfl, rfl⟩
  go_wp2_with (first
    | (at_builtin; refine wp_appN elN rfl _ _ rfl rfl (own_empty w 23 34) rfl (cel_length _ _) (hAl.out.alloc (Nat.le_refl _) _) (cel_one _ _) (by simp only [List.length_nil]; omega) (by simp) ?_; intro v1 w1 hown1 hb1 hz1; have hbA : Below w.heap.size w w1 := ((Below.refl _ w).alloc (Nat.le_refl _) _).trans hb1; have V1 := Lib.hid (Own.isL (show Own w1 _ _ _ (cel .u32 a) by simpa using hown1)); clear hown1 hb1 hz1)
    | (at_builtin; refine wp_appN elN rfl _ _ rfl rfl (own_empty w1 23 34) rfl (cel_length _ _) ((hBl.out.below hbA (Nat.le_refl _)).alloc hbA.size _) (cel_one _ _) (by simp only [List.length_nil]; omega) (by simp) ?_; intro v2 w2 hown2 hb2 hz2; have hbB : Below w1.heap.size w1 w2 := ((Below.refl _ w1).alloc (Nat.le_refl _) _).trans hb2; have V2 := Lib.hid (Own.isL (show Own w2 _ _ _ (cel .u32 b) by simpa using hown2)); clear hown2 hb2 hz2))
  have bw1 := Lib.hid (below_step hbA hbB)
  have A1 := Lib.hid (Ha.out.next bw1.out)
  have B1 := Lib.hid (Hb.out.next bw1.out)
  have U1 := Lib.hid (V1.out.next hbB)
  have W1 := Lib.hid (V2.out.wide (Nat.zero_le _) (Nat.le_refl _))
  have T1 := Lib.hid (HT.out.below bw1.out)
  clear hbA hbB V1 V2 Ha Hb hAl hBl HT
  refine (ndiv_l U1.out W1.out (Nat.le_refl _) (Nat.le_refl _)).mono ?_
  rintro e wn ⟨⟨x, r, rfl, hx, hr⟩, hb⟩
  have bw2 := Lib.hid (below_step bw1.out hb)
  have A2 := Lib.hid (A1.out.next hb)
  have B2 := Lib.hid (B1.out.next hb)
  have U2 := Lib.hid (U1.out.next hb)
  have W2 := Lib.hid (W1.out.next hb)
  have T2 := Lib.hid (T1.out.below hb)
  clear bw1 A1 B1 U1 W1 T1 hb
  have X2 := Lib.hid (hx.wide (lo' := 0) (Nat.zero_le _) (Nat.le_refl _))
  have R2 := Lib.hid (hr.wide (lo' := 0) (Nat.zero_le _) (Nat.le_refl _))
  clear hx hr
  go_wp2_with fail
  refine (rdiv_l A2.out B2.out).mono ?_
  rintro e wm ⟨⟨y, s, rfl, hy, hs⟩, hb⟩
  have bw3 := Lib.hid (below_step bw2.out hb)
  have A3 := Lib.hid (A2.out.next hb)
  have B3 := Lib.hid (B2.out.next hb)
  have U3 := Lib.hid (U2.out.next hb)
  have W3 := Lib.hid (W2.out.next hb)
  have T3 := Lib.hid (T2.out.below hb)
  have X3 := Lib.hid (X2.out.up hb)
  have R3 := Lib.hid (R2.out.up hb)
  clear bw2 A2 B2 U2 W2 T2 X2 R2 hb
  have Y3 := Lib.hid hy
  have S3 := Lib.hid hs
  clear hy hs
  go_wp2_with fail
  refine (alike_n X3.out Y3.out).mono ?_
  rw [decide_eq_true rfl]
  rintro e wd ⟨rfl, hdr⟩
  clear X3 Y3
  have bw4 := Lib.hid (below_step bw3.out (hdr.below _))
  have A4 := Lib.hid (A3.out.next (hdr.below _))
  have B4 := Lib.hid (B3.out.next (hdr.below _))
  have U4 := Lib.hid (U3.out.next (hdr.below _))
  have W4 := Lib.hid (W3.out.next (hdr.below _))
  have T4 := Lib.hid (T3.out.below (hdr.below _))
  have R4 := Lib.hid (R3.out.up (hdr.below _))
  have S4 := Lib.hid (S3.out.up (hdr.below _))
  clear bw3 A3 B3 U3 W3 T3 R3 S3 hdr
  go_wp2_with fail
  refine (alike_n R4.out S4.out).mono ?_
  rw [decide_eq_true rfl]
  rintro e wd ⟨rfl, hdr⟩
  clear R4 S4
  have bw5 := Lib.hid (below_step bw4.out (hdr.below _))
  have A5 := Lib.hid (A4.out.next (hdr.below _))
  have B5 := Lib.hid (B4.out.next (hdr.below _))
  have U5 := Lib.hid (U4.out.next (hdr.below _))
  have W5 := Lib.hid (W4.out.next (hdr.below _))
  have T5 := Lib.hid (T4.out.below (hdr.below _))
  clear bw4 A4 B4 U4 W4 T4 hdr
  go_wp2_with fail
  refine (ngcd_l U5.out W5.out T5.out).mono ?_
  rintro e wn ⟨⟨x, rfl, hx⟩, hb⟩
  have bw6 := Lib.hid (below_step bw5.out hb)
  have A6 := Lib.hid (A5.out.next hb)
  have B6 := Lib.hid (B5.out.next hb)
  have U6 := Lib.hid (U5.out.next hb)
  have W6 := Lib.hid (W5.out.next hb)
  have T6 := Lib.hid (T5.out.below hb)
  clear bw5 A5 B5 U5 W5 T5 hb
  have X6 := Lib.hid (hx.wide (lo' := 0) (Nat.zero_le _) (Nat.le_refl _))
  clear hx
  go_wp2_with fail
  refine (rgcd_l A6.out B6.out).mono ?_
  rintro e wm ⟨⟨y, rfl, hy⟩, hb⟩
  have bw7 := Lib.hid (below_step bw6.out hb)
  have A7 := Lib.hid (A6.out.next hb)
  have B7 := Lib.hid (B6.out.next hb)
  have U7 := Lib.hid (U6.out.next hb)
  have W7 := Lib.hid (W6.out.next hb)
  have T7 := Lib.hid (T6.out.below hb)
  have X7 := Lib.hid (X6.out.up hb)
  clear bw6 A6 B6 U6 W6 T6 X6 hb
  have Y7 := Lib.hid hy
  clear hy
  go_wp2_with fail
  refine (alike_n X7.out Y7.out).mono ?_
  rw [decide_eq_true rfl]
  rintro e wd ⟨rfl, hdr⟩
  clear X7 Y7
  have bw8 := Lib.hid (below_step bw7.out (hdr.below _))
  have A8 := Lib.hid (A7.out.next (hdr.below _))
  have B8 := Lib.hid (B7.out.next (hdr.below _))
  have U8 := Lib.hid (U7.out.next (hdr.below _))
  have W8 := Lib.hid (W7.out.next (hdr.below _))
  have T8 := Lib.hid (T7.out.below (hdr.below _))
  clear bw7 A7 B7 U7 W7 T7 hdr
  go_wp2_with fail
  refine (nlcm_l U8.out W8.out T8.out).mono ?_
  rintro e wn ⟨⟨x, rfl, hx⟩, hb⟩
  have bw9 := Lib.hid (below_step bw8.out hb)
  have A9 := Lib.hid (A8.out.next hb)
  have B9 := Lib.hid (B8.out.next hb)
  have U9 := Lib.hid (U8.out.next hb)
  have W9 := Lib.hid (W8.out.next hb)
  have T9 := Lib.hid (T8.out.below hb)
  clear bw8 A8 B8 U8 W8 T8 hb
  have X9 := Lib.hid (hx.wide (lo' := 0) (Nat.zero_le _) (Nat.le_refl _))
  clear hx
  go_wp2_with fail
  refine (rlcm_l A9.out B9.out).mono ?_
  rintro e wm ⟨⟨y, rfl, hy⟩, hb⟩
  have bw10 := Lib.hid (below_step bw9.out hb)
  have A10 := Lib.hid (A9.out.next hb)
  have B10 := Lib.hid (B9.out.next hb)
  have U10 := Lib.hid (U9.out.next hb)
  have W10 := Lib.hid (W9.out.next hb)
  have T10 := Lib.hid (T9.out.below hb)
  have X10 := Lib.hid (X9.out.up hb)
  clear bw9 A9 B9 U9 W9 T9 X9 hb
  have Y10 := Lib.hid hy
  clear hy
  go_wp2_with fail
  refine (alike_n X10.out Y10.out).mono ?_
  rw [decide_eq_true rfl]
  rintro e wd ⟨rfl, hdr⟩
  clear X10 Y10
  have bw11 := Lib.hid (below_step bw10.out (hdr.below _))
  have A11 := Lib.hid (A10.out.next (hdr.below _))
  have B11 := Lib.hid (B10.out.next (hdr.below _))
  have U11 := Lib.hid (U10.out.next (hdr.below _))
  have W11 := Lib.hid (W10.out.next (hdr.below _))
  have T11 := Lib.hid (T10.out.below (hdr.below _))
  clear bw10 A10 B10 U10 W10 T10 hdr
  go_wp2_with fail
  refine (alike_l U11.out A11.out).mono ?_
  rw [decide_eq_true rfl]
  rintro e wd ⟨rfl, hdr⟩
  have bw12 := Lib.hid (below_step bw11.out (hdr.below _))
  have A12 := Lib.hid (A11.out.next (hdr.below _))
  have B12 := Lib.hid (B11.out.next (hdr.below _))
  have U12 := Lib.hid (U11.out.next (hdr.below _))
  have W12 := Lib.hid (W11.out.next (hdr.below _))
  have T12 := Lib.hid (T11.out.below (hdr.below _))
  clear bw11 A11 B11 U11 W11 T11 hdr
  go_wp2_with fail
  refine (alike_l W12.out B12.out).mono ?_
  rw [decide_eq_true rfl]
  rintro e wd ⟨rfl, hdr⟩
  have bwz := Lib.hid (below_step bw12.out (hdr.below _))
  clear bw12 A12 B12 U12 W12 T12 hdr
  go_wp2_with fail
  refine (awake_true _).mono ?_
  rintro e w8 ⟨rfl, hb8⟩
  go_wp2_with fail
  go_ret
  exact ⟨rfl, below_step bwz.out hb8⟩

theorem law_quot {w : World} {va vb : Value} {a b : List Nat} (ha : IsL .u32 w 0 w.heap.size va a) (hb : IsL .u32 w 0 w.heap.size vb b) (hT : Bru w) :
    Calls Tryd.prog 5 #[va, vb] w fun e w' => e = .returned (.bool true) ∧ Below w.heap.size w w' := by
  cases h1 : lng a.length 30 with
  | true => exact law_quot_out ha hb (.inl h1)
  | false =>
    cases h2 : lng b.length 30 with
    | true => exact law_quot_out ha hb (.inr ⟨h1, h2⟩)
    | false => exact law_quot_in ha hb hT h1 h2
end Go.Proofs.YtbeocfiimminiaaDoor
