/-
  The walk of the law NatKnown.
-/
import Derived.Test.YtbeocfiimminiaaDoorQuotN
import Derived.Test.YtbeocfiimminiaaDoorKitA
import Derived.Test.YtbeocfiimminiaaDoorAwake
import Derived.Test.YtbeocfiimminiaaDoorDigits
import Derived.Test.YtbeocfiimminiaaDoorParseB
namespace Go.Proofs.YtbeocfiimminiaaDoor
open Go.RowKit
set_option linter.unusedVariables false

theorem lim_12 : lim 12 = [12] := lim_lit (by intro x hx; simp at hx; omega) (by decide) (by decide)
theorem lim_18 : lim 18 = [18] := lim_lit (by intro x hx; simp at hx; omega) (by decide) (by decide)
theorem lim_4 : lim 4 = [4] := lim_lit (by intro x hx; simp at hx; omega) (by decide) (by decide)
theorem lim_6 : lim 6 = [6] := lim_lit (by intro x hx; simp at hx; omega) (by decide) (by decide)
theorem lim_10 : lim 10 = [10] := lim_lit (by intro x hx; simp at hx; omega) (by decide) (by decide)
theorem lim_1 : lim 1 = [1] := lim_lit (by intro x hx; simp at hx; omega) (by decide) (by decide)
theorem lim_1000000000 : lim 1000000000 = [0, 1] := lim_lit (by intro x hx; simp at hx; omega) (by decide) (by decide)
theorem ndg_big : ndg 1000000000 = 10 := by
  unfold ndg
  rw [if_neg (by omega)]
  exact ndig_eq (d := 9) (by decide) (by decide)
theorem lit_n2 (w : World) (o : Obj) (t : TypeId) {x : Nat} {l : List Nat} (hx : lim x = l) (cs : Array Value) (n : Nat) (h : cs = (cel .u32 l).toArray) (hn : n = l.length) (hm : l.length ≤ maxLen) :
    IsN ((w.alloc o).alloc (.cells cs t)) 0 ((w.alloc o).alloc (.cells cs t)).heap.size (.slice (some ⟨w.heap.size + 1, 0, none⟩) n n) x := by
  have := lit_n (w.alloc o) t hx cs n h hn hm
  simpa only [World.size_alloc] using this
theorem good3 {s : ByteArray} {n : Nat} (h : (List.range n).all (fun i => decide (48 ≤ byt s i) && decide (byt s i ≤ 57)) = true) : Good s n := by
  intro i hi
  have := List.all_eq_true.1 h i (List.mem_range.2 hi)
  simpa using this
theorem Row.next {w w' : World} {g : Nat} {t : TypeId} {xs : List Value} (h : Row w g t xs) (hb : Below w.heap.size w w') : Row w' g t xs := h.below hb h.lt
theorem parse_007 (w : World) : Calls Tryd.prog 12 #[.string ⟨#[48, 48, 55]⟩] w fun e w' => e = .returned (.tuple #[.slice none 0 0, .agg #[.int .i64 11, .int .i64 0]]) ∧ Below w.heap.size w w' :=
  nparse_form ⟨#[48, 48, 55]⟩ (by decide) (good3 (by decide)) (.inr (by decide))
theorem parse_big (w : World) : Calls Tryd.prog 12 #[.string ⟨#[49, 48, 48, 48, 48, 48, 48, 48, 48, 48]⟩] w fun e w' => (∃ v, e = .returned (.tuple #[v, .agg #[.int .i64 0, .int .i64 0]]) ∧ IsN w' w.heap.size w'.heap.size v 1000000000) ∧ Below w.heap.size w w' := by
  have h := nparse_ok (w := w) ⟨#[49, 48, 48, 48, 48, 48, 48, 48, 48, 48]⟩ (by decide) (good3 (by decide)) (by decide) (.inr (by decide))
  rw [show nv ⟨#[49, 48, 48, 48, 48, 48, 48, 48, 48, 48]⟩ 0 (ByteArray.size ⟨#[49, 48, 48, 48, 48, 48, 48, 48, 48, 48]⟩) = 1000000000 from by decide] at h
  exact h
theorem parse_12a (w : World) : Calls Tryd.prog 12 #[.string ⟨#[49, 50, 97]⟩] w fun e w' => e = .returned (.tuple #[.slice none 0 0, .agg #[.int .i64 11, .int .i64 2]]) ∧ Below w.heap.size w w' :=
  nparse_byte ⟨#[49, 50, 97]⟩ (by decide) 2 (by decide) (good3 (by decide)) (.inr (by decide))
theorem parse_none (w : World) : Calls Tryd.prog 12 #[.string ⟨#[]⟩] w fun e w' => e = .returned (.tuple #[.slice none 0 0, .agg #[.int .i64 11, .int .i64 0]]) ∧ Below w.heap.size w w' :=
  nparse_form ⟨#[]⟩ (by decide) (good3 (by decide)) (.inl (by decide))

set_option maxRecDepth 100000 in
set_option maxHeartbeats 4000000 in
theorem law_known {w : World} (hT : Bru w) :
    Calls Tryd.prog 7 #[] w fun e w' => e = .returned (.bool true) ∧ Below w.heap.size w w' := by
  have T0 := Lib.hid hT
  clear hT
  go_enter Tryd.func7, Tryd.ntmps7
  go_wp2_with fail
  refine (nof_pos w 0 (by omega) (by omega)).mono ?_
  rintro e wa ⟨⟨vA, rfl, hv⟩, hb⟩
  have hbS := hb
  have bw1 := Lib.hid (hbS)
  have T1 := Lib.hid (T0.out.below (hbS))
  clear T0
  clear hbS
  have A1 := Lib.hid (hv.wide (lo' := 0) (Nat.zero_le _) (Nat.le_refl _))
  clear hv hb
  go_wp2_with fail
  refine (nof_neg wa (-1) (by omega)).mono ?_
  rintro e wng ⟨rfl, rfl⟩
  go_wp2_with fail
  have hA := (lit_n wa 34 lit_b #[.int .u32 999999999] 1 (by simp [cel]) rfl (by simp [maxLen])).more (.cells #[.int .u32 1] 34)
  have hB := lit_n2 wa (.cells #[.int .u32 999999999] 34) 34 lim_1 #[.int .u32 1] 1 (by simp [cel]) rfl (by simp [maxLen])
  refine (nadd_n hA hB (Nat.le_refl _) (Nat.le_refl _) (by rw [lit_b]; decide) (by rw [lim_1]; decide) (by rw [show 999999999 + 1 = 1000000000 from rfl, lim_1000000000]; decide)).mono ?_
  clear hA hB
  rintro e wb ⟨⟨vB, rfl, hv⟩, hb⟩
  have hbS := below_step (below_stepA (below_stepA (Below.refl wa.heap.size wa) (.cells #[.int .u32 999999999] 34)) (.cells #[.int .u32 1] 34)) hb
  have bw2 := Lib.hid (below_step bw1.out (hbS))
  have T2 := Lib.hid (T1.out.below (hbS))
  have A2 := Lib.hid (A1.out.next (hbS))
  clear T1 A1 bw1
  clear hbS
  have B2 := Lib.hid (hv.wide (lo' := 0) (Nat.zero_le _) (Nat.le_refl _))
  clear hv hb
  go_wp2_with fail
  have hA := (lit_n wb 34 lim_1000000000 #[.int .u32 0, .int .u32 1] 2 (by simp [cel]) rfl (by simp [maxLen])).more (.cells #[.int .u32 1] 34)
  have hB := lit_n2 wb (.cells #[.int .u32 0, .int .u32 1] 34) 34 lim_1 #[.int .u32 1] 1 (by simp [cel]) rfl (by simp [maxLen])
  refine (nsub_n hA hB (Nat.le_refl _) (Nat.le_refl _) (by rw [lim_1000000000]; decide) (by rw [lim_1]; decide) (by omega)).mono ?_
  clear hA hB
  rintro e wc ⟨⟨vC, rfl, hv⟩, hb⟩
  have hbS := below_step (below_stepA (below_stepA (Below.refl wb.heap.size wb) (.cells #[.int .u32 0, .int .u32 1] 34)) (.cells #[.int .u32 1] 34)) hb
  have bw3 := Lib.hid (below_step bw2.out (hbS))
  have T3 := Lib.hid (T2.out.below (hbS))
  have A3 := Lib.hid (A2.out.next (hbS))
  have B3 := Lib.hid (B2.out.next (hbS))
  clear T2 A2 B2 bw2
  clear hbS
  have C3 := Lib.hid (hv.wide (lo' := 0) (Nat.zero_le _) (Nat.le_refl _))
  clear hv hb
  go_wp2_with fail
  have hL : IsL .u32 wc 0 0 (.slice none 0 0) [] := IsL.nil
  have hX := A3.out
  unfold IsN at hX
  rw [show lim (Int.toNat 0) = [] from lim_zero] at hX
  refine (is_ok hX hL).mono ?_
  clear hX hL
  rw [decide_eq_true rfl]
  rintro e wi1 ⟨rfl, hdr⟩
  clear A3
  have hbS := below_stepD (Below.refl wc.heap.size wc) hdr
  have bw4 := Lib.hid (below_step bw3.out (hbS))
  have T4 := Lib.hid (T3.out.below (hbS))
  have B4 := Lib.hid (B3.out.next (hbS))
  have C4 := Lib.hid (C3.out.next (hbS))
  clear T3 B3 C3 bw3
  clear hbS
  clear hdr
  go_wp2_with fail
  have hL := lit_l wi1 34 (l := [0, 1]) #[.int .u32 0, .int .u32 1] 2 (by simp [cel]) rfl (by simp [maxLen])
  have hX := B4.out.more (.cells #[.int .u32 0, .int .u32 1] 34)
  unfold IsN at hX
  rw [show lim (999999999 + 1) = [0, 1] from lim_1000000000] at hX
  refine (is_ok hX hL).mono ?_
  clear hX hL
  rw [decide_eq_true rfl]
  rintro e wi2 ⟨rfl, hdr⟩
  clear B4
  have hbS := below_stepD (below_stepA (Below.refl wi1.heap.size wi1) (.cells #[.int .u32 0, .int .u32 1] 34)) hdr
  have bw5 := Lib.hid (below_step bw4.out (hbS))
  have T5 := Lib.hid (T4.out.below (hbS))
  have C5 := Lib.hid (C4.out.next (hbS))
  clear T4 C4 bw4
  clear hbS
  clear hdr
  go_wp2_with fail
  have hL := lit_l wi2 34 (l := [999999999]) #[.int .u32 999999999] 1 (by simp [cel]) rfl (by simp [maxLen])
  have hX := C5.out.more (.cells #[.int .u32 999999999] 34)
  unfold IsN at hX
  rw [show lim (1000000000 - 1) = [999999999] from lit_b] at hX
  refine (is_ok hX hL).mono ?_
  clear hX hL
  rw [decide_eq_true rfl]
  rintro e wi3 ⟨rfl, hdr⟩
  clear C5
  have hbS := below_stepD (below_stepA (Below.refl wi2.heap.size wi2) (.cells #[.int .u32 999999999] 34)) hdr
  have bw6 := Lib.hid (below_step bw5.out (hbS))
  have T6 := Lib.hid (T5.out.below (hbS))
  clear T5 bw5
  clear hbS
  clear hdr
  go_wp2_with fail
  have hA := (lit_n wi3 34 lim_12 #[.int .u32 12] 1 (by simp [cel]) rfl (by simp [maxLen])).more (.cells #[.int .u32 18] 34)
  have hB := lit_n2 wi3 (.cells #[.int .u32 12] 34) 34 lim_18 #[.int .u32 18] 1 (by simp [cel]) rfl (by simp [maxLen])
  refine (ngcd_n hA hB ((T6.out.alloc _).alloc _) (by rw [lim_12]; decide) (by rw [lim_18]; decide)).mono ?_
  clear hA hB
  rintro e wd ⟨⟨vD, rfl, hv⟩, hb⟩
  have hbS := below_step (below_stepA (below_stepA (Below.refl wi3.heap.size wi3) (.cells #[.int .u32 12] 34)) (.cells #[.int .u32 18] 34)) hb
  have bw7 := Lib.hid (below_step bw6.out (hbS))
  have T7 := Lib.hid (T6.out.below (hbS))
  clear T6 bw6
  clear hbS
  have D7 := Lib.hid (hv.wide (lo' := 0) (Nat.zero_le _) (Nat.le_refl _))
  clear hv hb
  go_wp2_with fail
  have hA := (lit_n wd 34 lim_4 #[.int .u32 4] 1 (by simp [cel]) rfl (by simp [maxLen])).more (.cells #[.int .u32 6] 34)
  have hB := lit_n2 wd (.cells #[.int .u32 4] 34) 34 lim_6 #[.int .u32 6] 1 (by simp [cel]) rfl (by simp [maxLen])
  refine (nlcm_n hA hB ((T7.out.alloc _).alloc _) (by rw [lim_4]; decide) (by rw [lim_6]; decide) (by rw [show lcmN 4 6 = 12 from by decide, lim_12]; decide)).mono ?_
  clear hA hB
  rintro e we ⟨⟨vE, rfl, hv⟩, hb⟩
  have hbS := below_step (below_stepA (below_stepA (Below.refl wd.heap.size wd) (.cells #[.int .u32 4] 34)) (.cells #[.int .u32 6] 34)) hb
  have bw8 := Lib.hid (below_step bw7.out (hbS))
  have T8 := Lib.hid (T7.out.below (hbS))
  have D8 := Lib.hid (D7.out.next (hbS))
  clear T7 D7 bw7
  clear hbS
  have E8 := Lib.hid (hv.wide (lo' := 0) (Nat.zero_le _) (Nat.le_refl _))
  clear hv hb
  go_wp2_with fail
  have hA := lit_n we 34 lim_10 #[.int .u32 10] 1 (by simp [cel]) rfl (by simp [maxLen])
  refine (npow_n 9 hA (Nat.le_refl _) (by rw [lim_10]; decide) (by omega) (by omega) (by rw [show 10 ^ Int.toNat 9 = 1000000000 from rfl, lim_1000000000]; decide)).mono ?_
  clear hA
  rintro e wg ⟨⟨vG, rfl, hv⟩, hb⟩
  have hbS := below_step (below_stepA (Below.refl we.heap.size we) (.cells #[.int .u32 10] 34)) hb
  have bw9 := Lib.hid (below_step bw8.out (hbS))
  have T9 := Lib.hid (T8.out.below (hbS))
  have D9 := Lib.hid (D8.out.next (hbS))
  have E9 := Lib.hid (E8.out.next (hbS))
  clear T8 D8 E8 bw8
  clear hbS
  have G9 := Lib.hid (hv.wide (lo' := 0) (Nat.zero_le _) (Nat.le_refl _))
  clear hv hb
  go_wp2_with fail
  have hA := lit_n wg 34 lim_1000000000 #[.int .u32 0, .int .u32 1] 2 (by simp [cel]) rfl (by simp [maxLen])
  refine (ndigits_ok hA (by rw [lim_1000000000]; decide)).mono ?_
  clear hA
  rw [show ndg 1000000000 = 10 from ndg_big]
  rintro e wdg ⟨rfl, hdg⟩
  have hbS : Below wg.heap.size wg wdg := by rw [← hdg]; exact below_stepA (Below.refl wg.heap.size wg) _
  clear hdg
  have bw10 := Lib.hid (below_step bw9.out (hbS))
  have T10 := Lib.hid (T9.out.below (hbS))
  have D10 := Lib.hid (D9.out.next (hbS))
  have E10 := Lib.hid (E9.out.next (hbS))
  have G10 := Lib.hid (G9.out.next (hbS))
  clear T9 D9 E9 G9 bw9
  clear hbS
  go_wp2_with fail
  have hL := lit_l wdg 34 (l := [6]) #[.int .u32 6] 1 (by simp [cel]) rfl (by simp [maxLen])
  have hX := D10.out.more (.cells #[.int .u32 6] 34)
  unfold IsN at hX
  rw [show lim (Nat.gcd 12 18) = [6] from by rw [show Nat.gcd 12 18 = 6 from by decide]; exact lim_6] at hX
  refine (is_ok hX hL).mono ?_
  clear hX hL
  rw [decide_eq_true rfl]
  rintro e wi4 ⟨rfl, hdr⟩
  clear D10
  have hbS := below_stepD (below_stepA (Below.refl wdg.heap.size wdg) (.cells #[.int .u32 6] 34)) hdr
  have bw11 := Lib.hid (below_step bw10.out (hbS))
  have T11 := Lib.hid (T10.out.below (hbS))
  have E11 := Lib.hid (E10.out.next (hbS))
  have G11 := Lib.hid (G10.out.next (hbS))
  clear T10 E10 G10 bw10
  clear hbS
  clear hdr
  go_wp2_with fail
  have hL := lit_l wi4 34 (l := [12]) #[.int .u32 12] 1 (by simp [cel]) rfl (by simp [maxLen])
  have hX := E11.out.more (.cells #[.int .u32 12] 34)
  unfold IsN at hX
  rw [show lim (lcmN 4 6) = [12] from by rw [show lcmN 4 6 = 12 from by decide]; exact lim_12] at hX
  refine (is_ok hX hL).mono ?_
  clear hX hL
  rw [decide_eq_true rfl]
  rintro e wi5 ⟨rfl, hdr⟩
  clear E11
  have hbS := below_stepD (below_stepA (Below.refl wi4.heap.size wi4) (.cells #[.int .u32 12] 34)) hdr
  have bw12 := Lib.hid (below_step bw11.out (hbS))
  have T12 := Lib.hid (T11.out.below (hbS))
  have G12 := Lib.hid (G11.out.next (hbS))
  clear T11 G11 bw11
  clear hbS
  clear hdr
  go_wp2_with fail
  have hL := lit_l wi5 34 (l := [0, 1]) #[.int .u32 0, .int .u32 1] 2 (by simp [cel]) rfl (by simp [maxLen])
  have hX := G12.out.more (.cells #[.int .u32 0, .int .u32 1] 34)
  unfold IsN at hX
  rw [show lim (10 ^ Int.toNat 9) = [0, 1] from lim_1000000000] at hX
  refine (is_ok hX hL).mono ?_
  clear hX hL
  rw [decide_eq_true rfl]
  rintro e wi6 ⟨rfl, hdr⟩
  clear G12
  have hbS := below_stepD (below_stepA (Below.refl wi5.heap.size wi5) (.cells #[.int .u32 0, .int .u32 1] 34)) hdr
  have bw13 := Lib.hid (below_step bw12.out (hbS))
  have T13 := Lib.hid (T12.out.below (hbS))
  clear T12 bw12
  clear hbS
  clear hdr
  go_wp2_with fail
  refine (parse_007 _).mono ?_
  rintro e wp1 ⟨rfl, hb⟩
  have hbS := hb
  have bw14 := Lib.hid (below_step bw13.out (hbS))
  have T14 := Lib.hid (T13.out.below (hbS))
  clear T13 bw13
  clear hbS
  clear hb
  have hbS := below_stepA (Below.refl wp1.heap.size wp1) (.cells #[.int .i64 11, .int .i64 0] 30)
  have bw15 := Lib.hid (below_step bw14.out (hbS))
  have T15 := Lib.hid (T14.out.below (hbS))
  clear T14 bw14
  clear hbS
  have I15 : Hid (Row (wp1.alloc (.cells #[.int .i64 11, .int .i64 0] 30)) wp1.heap.size 30 [.int .i64 11, .int .i64 0]) := heap_alloc_new _ _
  go_wp2_with fail
  refine (parse_big _).mono ?_
  rintro e wp2 ⟨⟨vP, rfl, hv⟩, hb⟩
  have hbS := hb
  have bw16 := Lib.hid (below_step bw15.out (hbS))
  have T16 := Lib.hid (T15.out.below (hbS))
  have I16 := Lib.hid (I15.out.next (hbS))
  clear T15 I15 bw15
  clear hbS
  have P16 := Lib.hid (hv.wide (lo' := 0) (Nat.zero_le _) (Nat.le_refl _))
  clear hv hb
  have hbS := below_stepA (Below.refl wp2.heap.size wp2) (.cells #[.int .i64 0, .int .i64 0] 30)
  have bw17 := Lib.hid (below_step bw16.out (hbS))
  have T17 := Lib.hid (T16.out.below (hbS))
  have I17 := Lib.hid (I16.out.next (hbS))
  have P17 := Lib.hid (P16.out.next (hbS))
  clear T16 I16 P16 bw16
  clear hbS
  have J17 : Hid (Row (wp2.alloc (.cells #[.int .i64 0, .int .i64 0] 30)) wp2.heap.size 30 [.int .i64 0, .int .i64 0]) := heap_alloc_new _ _
  go_wp2_with fail
  refine (parse_12a _).mono ?_
  rintro e wp3 ⟨rfl, hb⟩
  have hbS := hb
  have bw18 := Lib.hid (below_step bw17.out (hbS))
  have T18 := Lib.hid (T17.out.below (hbS))
  have I18 := Lib.hid (I17.out.next (hbS))
  have P18 := Lib.hid (P17.out.next (hbS))
  have J18 := Lib.hid (J17.out.next (hbS))
  clear T17 I17 P17 J17 bw17
  clear hbS
  clear hb
  have hbS := below_stepA (Below.refl wp3.heap.size wp3) (.cells #[.int .i64 11, .int .i64 2] 30)
  have bw19 := Lib.hid (below_step bw18.out (hbS))
  have T19 := Lib.hid (T18.out.below (hbS))
  have I19 := Lib.hid (I18.out.next (hbS))
  have P19 := Lib.hid (P18.out.next (hbS))
  have J19 := Lib.hid (J18.out.next (hbS))
  clear T18 I18 P18 J18 bw18
  clear hbS
  have K19 : Hid (Row (wp3.alloc (.cells #[.int .i64 11, .int .i64 2] 30)) wp3.heap.size 30 [.int .i64 11, .int .i64 2]) := heap_alloc_new _ _
  go_wp2_with fail
  refine (parse_none _).mono ?_
  rintro e wp4 ⟨rfl, hb⟩
  have hbS := hb
  have bw20 := Lib.hid (below_step bw19.out (hbS))
  have T20 := Lib.hid (T19.out.below (hbS))
  have I20 := Lib.hid (I19.out.next (hbS))
  have P20 := Lib.hid (P19.out.next (hbS))
  have J20 := Lib.hid (J19.out.next (hbS))
  have K20 := Lib.hid (K19.out.next (hbS))
  clear T19 I19 P19 J19 K19 bw19
  clear hbS
  clear hb
  have hbS := below_stepA (Below.refl wp4.heap.size wp4) (.cells #[.int .i64 11, .int .i64 0] 30)
  have bw21 := Lib.hid (below_step bw20.out (hbS))
  have T21 := Lib.hid (T20.out.below (hbS))
  have I21 := Lib.hid (I20.out.next (hbS))
  have P21 := Lib.hid (P20.out.next (hbS))
  have J21 := Lib.hid (J20.out.next (hbS))
  have K21 := Lib.hid (K20.out.next (hbS))
  clear T20 I20 P20 J20 K20 bw20
  clear hbS
  have L21 : Hid (Row (wp4.alloc (.cells #[.int .i64 11, .int .i64 0] 30)) wp4.heap.size 30 [.int .i64 11, .int .i64 0]) := heap_alloc_new _ _
  have hbS := below_stepA (Below.refl (wp4.alloc (.cells #[.int .i64 11, .int .i64 0] 30)).heap.size (wp4.alloc (.cells #[.int .i64 11, .int .i64 0] 30))) (.cells #[.int .i64 11, .int .i64 0] 30)
  have bw22 := Lib.hid (below_step bw21.out (hbS))
  have T22 := Lib.hid (T21.out.below (hbS))
  have I22 := Lib.hid (I21.out.next (hbS))
  have P22 := Lib.hid (P21.out.next (hbS))
  have J22 := Lib.hid (J21.out.next (hbS))
  have K22 := Lib.hid (K21.out.next (hbS))
  have L22 := Lib.hid (L21.out.next (hbS))
  clear T21 I21 P21 J21 K21 L21 bw21
  clear hbS
  have S22 : Hid (Row ((wp4.alloc (.cells #[.int .i64 11, .int .i64 0] 30)).alloc (.cells #[.int .i64 11, .int .i64 0] 30)) (wp4.alloc (.cells #[.int .i64 11, .int .i64 0] 30)).heap.size 30 [.int .i64 11, .int .i64 0]) := heap_alloc_new _ _
  have cI0 : World.cell? _ _ = some (.int .i64 11) := I22.out.cell 0
  have cI1 : World.cell? _ _ = some (.int .i64 0) := I22.out.cell 1
  have cJ0 : World.cell? _ _ = some (.int .i64 0) := J22.out.cell 0
  have cJ1 : World.cell? _ _ = some (.int .i64 0) := J22.out.cell 1
  have cK0 : World.cell? _ _ = some (.int .i64 11) := K22.out.cell 0
  have cK1 : World.cell? _ _ = some (.int .i64 2) := K22.out.cell 1
  have cL0 : World.cell? _ _ = some (.int .i64 11) := L22.out.cell 0
  have cL1 : World.cell? _ _ = some (.int .i64 0) := L22.out.cell 1
  have cS0 : World.cell? _ _ = some (.int .i64 11) := S22.out.cell 0
  have cS1 : World.cell? _ _ = some (.int .i64 0) := S22.out.cell 1
  simp only [World.size_alloc] at cS0 cS1
  go_wp2_with fail
  have hL := lit_l ((wp4.alloc (.cells #[.int .i64 11, .int .i64 0] 30)).alloc (.cells #[.int .i64 11, .int .i64 0] 30)) 34 (l := [0, 1]) #[.int .u32 0, .int .u32 1] 2 (by simp [cel]) rfl (by simp [maxLen])
  rw [show ((wp4.alloc (.cells #[.int .i64 11, .int .i64 0] 30)).alloc (.cells #[.int .i64 11, .int .i64 0] 30)).heap.size = wp4.heap.size + 1 + 1 from by simp only [World.size_alloc]] at hL
  have hX := P22.out.more (.cells #[.int .u32 0, .int .u32 1] 34)
  unfold IsN at hX
  rw [lim_1000000000] at hX
  refine (is_ok hX hL).mono ?_
  clear hX hL
  rw [decide_eq_true rfl]
  rintro e wi7 ⟨rfl, hdr⟩
  clear P22
  have hbS := below_stepD (below_stepA (Below.refl ((wp4.alloc (.cells #[.int .i64 11, .int .i64 0] 30)).alloc (.cells #[.int .i64 11, .int .i64 0] 30)).heap.size ((wp4.alloc (.cells #[.int .i64 11, .int .i64 0] 30)).alloc (.cells #[.int .i64 11, .int .i64 0] 30))) (.cells #[.int .u32 0, .int .u32 1] 34)) hdr
  have bw23 := Lib.hid (below_step bw22.out (hbS))
  have T23 := Lib.hid (T22.out.below (hbS))
  have I23 := Lib.hid (I22.out.next (hbS))
  have J23 := Lib.hid (J22.out.next (hbS))
  have K23 := Lib.hid (K22.out.next (hbS))
  have L23 := Lib.hid (L22.out.next (hbS))
  have S23 := Lib.hid (S22.out.next (hbS))
  clear T22 I22 J22 K22 L22 S22 bw22
  clear hbS
  clear hdr
  clear cI0 cI1 cJ0 cJ1 cK0 cK1 cL0 cL1 cS0 cS1
  clear I23 J23
  have cK0 : World.cell? _ _ = some (.int .i64 11) := K23.out.cell 0
  have cK1 : World.cell? _ _ = some (.int .i64 2) := K23.out.cell 1
  have cL0 : World.cell? _ _ = some (.int .i64 11) := L23.out.cell 0
  have cL1 : World.cell? _ _ = some (.int .i64 0) := L23.out.cell 1
  have cS0 : World.cell? _ _ = some (.int .i64 11) := S23.out.cell 0
  have cS1 : World.cell? _ _ = some (.int .i64 0) := S23.out.cell 1
  simp only [World.size_alloc] at cS0 cS1
  go_wp2_with fail
  clear cK0 cK1 cL0 cL1 cS0 cS1
  have hL := lit_l wi7 34 (l := [1000000000]) #[.int .u32 1000000000] 1 (by simp [cel]) rfl (by simp [maxLen])
  refine (check_l hL).mono ?_
  clear hL
  rw [show chk [1000000000] = 3 from by decide]
  rintro e wk1 ⟨rfl, hdg⟩
  have hbS : Below wi7.heap.size wi7 wk1 := by rw [← hdg]; exact below_stepA (Below.refl wi7.heap.size wi7) _
  clear hdg
  have bw24 := Lib.hid (below_step bw23.out (hbS))
  have T24 := Lib.hid (T23.out.below (hbS))
  have K24 := Lib.hid (K23.out.next (hbS))
  have L24 := Lib.hid (L23.out.next (hbS))
  have S24 := Lib.hid (S23.out.next (hbS))
  clear T23 K23 L23 S23 bw23
  clear hbS
  go_wp2_with fail
  have hL := lit_l wk1 34 (l := [1, 0]) #[.int .u32 1, .int .u32 0] 2 (by simp [cel]) rfl (by simp [maxLen])
  refine (check_l hL).mono ?_
  clear hL
  rw [show chk [1, 0] = 3 from by decide]
  rintro e wk2 ⟨rfl, hdg⟩
  have hbS : Below wk1.heap.size wk1 wk2 := by rw [← hdg]; exact below_stepA (Below.refl wk1.heap.size wk1) _
  clear hdg
  have bw25 := Lib.hid (below_step bw24.out (hbS))
  have T25 := Lib.hid (T24.out.below (hbS))
  have K25 := Lib.hid (K24.out.next (hbS))
  have L25 := Lib.hid (L24.out.next (hbS))
  have S25 := Lib.hid (S24.out.next (hbS))
  clear T24 K24 L24 S24 bw24
  clear hbS
  go_wp2_with fail
  refine (awake_true _).mono ?_
  rintro e w8 ⟨rfl, hb8⟩
  go_wp2_with fail
  go_ret
  exact ⟨rfl, below_step bw25.out hb8⟩
end Go.Proofs.YtbeocfiimminiaaDoor
