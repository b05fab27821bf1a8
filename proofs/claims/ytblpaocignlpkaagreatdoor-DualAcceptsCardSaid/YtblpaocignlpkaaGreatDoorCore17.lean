/-
  The walk of the law's own awake.
-/
import Derived.Test.YtblpaocignlpkaaGreatDoorCore16
import Derived.Test.YtblpaocignlpkaaGreatDoorCore01
import Derived.Test.YtblpaocignlpkaaGreatDoorChecked
import Derived.WalkKit
import Derived.ProofKit
import Derived.OpenShut
import Derived.ChangeSame
import Derived.Carry
import Derived.Deep.DeepHandedRow
import Derived.Test.YtblpaocignlpkaaGreatDoorCore02
import Derived.Test.YtblpaocignlpkaaGreatDoorCore07
import Derived.Deep.Slices
import Derived.Test.YtblpaocignlpkaaGreatDoorCore12
namespace Go.Proofs.YtblpaocignlpkaaGreatDoor
open Go.RowKit
set_option linter.unusedVariables false
theorem zak {l : List Value} {n : Nat} (h : l.length = n + 1) : ∃ x k, l = x :: k ∧ k.length = n := by
  cases l with
  | nil => cases h
  | cons x k => exact ⟨x, k, rfl, by simpa using h⟩
set_option maxRecDepth 100000 in
set_option maxHeartbeats 8000000 in
theorem awake5_l {w : World} (hB : Bru w) : Calls Tryz.prog 10 #[] w fun e w' => e = .returned (.bool true) ∧ Below w.heap.size w w' := by
  have HB := Lib.hid hB
  clear hB
  go_enter Tryz.func10, Tryz.ntmps10
  go_wp2_with fail
  refine (example_l _).mono ?_
  rintro e w1 ⟨⟨v1, rfl, h1⟩, hb1⟩
  have B1 := Lib.hid hb1
  have H1 := Lib.hid h1
  clear h1 hb1
  go_wp2_with fail
  refine (of_good H1.out (Bru.next HB.out B1.out) good_ex).mono ?_
  rintro e w2 ⟨⟨v2, rfl, h2⟩, hb2⟩
  have H2 := Lib.hid h2
  have B2 := Lib.hid (zaa B1.out hb2)
  obtain ⟨Da, da, Db, db, Dc, dc, rfl, _, _, _⟩ := h2
  clear hb2 B1 H1
  obtain ⟨w3, hw3, hb3, r3, Hz3⟩ := zbm w2 #[.slice Da (rawP (zca exQ)).A.length da, .slice Db (rawP (zca exQ)).B.length db, .slice Dc (rawP (zca exQ)).C.length dc] 27
  have B3 := Lib.hid (zaa B2.out hb3)
  have D3 := Lib.hid (IsP.stb.next H2.out hb3)
  have R3 := Lib.hid r3
  clear hb3 r3 B2 H2
  go_wp2_with fail
  clear hw3
  refine (example_l _).mono ?_
  rintro e w4 ⟨⟨v4, rfl, h4⟩, hb4⟩
  have H4 := Lib.hid h4
  have B4 := Lib.hid (zaa B3.out hb4)
  have D4 := Lib.hid (IsP.stb.next D3.out hb4)
  have R4 := Lib.hid (R3.out.next hb4)
  clear h4 hb4 B3 D3 R3
  go_wp2_with fail
  refine (zeq (w := w4.alloc (.cells #[.int .i64 3, .int .i64 1] 3)) (l := [3, 1]) (heap_alloc_new w4 _) (by decide) (by decide)).mono ?_
  rintro e w5 ⟨⟨v5, rfl, h5⟩, hb5⟩
  have hb5' := zaa (zas w4 _) hb5
  have X5 := Lib.hid (IsV.stb.old h5)
  have H5 := Lib.hid (IsP.stb.next H4.out hb5')
  have B5 := Lib.hid (zaa B4.out hb5')
  have D5 := Lib.hid (IsP.stb.next D4.out hb5')
  have R5 := Lib.hid (R4.out.next hb5')
  clear h5 hb5 hb5' B4 D4 R4 H4
  go_wp2_with fail
  refine (zeq (w := w5.alloc (.cells #[.int .i64 3, .int .i64 0] 3)) (l := [3, 0]) (heap_alloc_new w5 _) (by decide) (by decide)).mono ?_
  rintro e w6 ⟨⟨v6, rfl, h6⟩, hb6⟩
  have hb6' := zaa (zas w5 _) hb6
  have Y6 := Lib.hid (IsV.stb.old h6)
  have X6 := Lib.hid (IsV.stb.next X5.out hb6')
  have H6 := Lib.hid (IsP.stb.next H5.out hb6')
  have B6 := Lib.hid (zaa B5.out hb6')
  have D6 := Lib.hid (IsP.stb.next D5.out hb6')
  have R6 := Lib.hid (R5.out.next hb6')
  clear h6 hb6 hb6' B5 D5 R5 H5 X5
  go_wp2_with fail
  refine (gap_good (q := exQ) (x := zbd [3, 1]) (y := zbd [3, 0]) (d := zea 1 1) H6.out X6.out Y6.out (Bru.next HB.out B6.out) good_ex (fun W hW => pair_good (IsP.stb.next H6.out hW) (IsV.stb.next X6.out hW) (IsV.stb.next Y6.out hW) (Bru.next HB.out (zaa B6.out hW)) good_ex (ex_giv [3, 1] [3, 0] rfl rfl (by decide) (by decide)) rfl (zdg (by decide)) rfl (zdg (by decide)) (by rw [if_pos ex_feas])) rfl (zdg (by decide)) rfl (zdg (by decide)) ex_gap.symm).mono ?_
  rw [gap_one.1, gap_one.2]
  rintro e w7 ⟨⟨v7, rfl, h7⟩, hb7⟩
  have G7 := Lib.hid h7
  have B7 := Lib.hid (zaa B6.out hb7)
  have D7 := Lib.hid (IsP.stb.next D6.out hb7)
  have R7 := Lib.hid (R6.out.next hb7)
  obtain ⟨Ga, ga, Gb, gb, rfl, _, _⟩ := h7
  clear hb7 B6 D6 R6 H6 X6 Y6
  obtain ⟨w8, hw8, hb8, r8, Hz8⟩ := zbm w7 #[.bool (raw (zea 1 1)).neg, .slice Ga (raw (zea 1 1)).num.length ga, .slice Gb (raw (zea 1 1)).den.length gb] 31
  have B8 := Lib.hid (zaa B7.out hb8)
  have D8 := Lib.hid (IsP.stb.next D7.out hb8)
  have R8 := Lib.hid (R7.out.next hb8)
  have G8 := Lib.hid (IsR.stb.next G7.out hb8)
  have S8 := Lib.hid r8
  clear hb8 r8 B7 D7 R7 G7
  go_wp2_with fail
  clear hw8
  refine (example_l _).mono ?_
  rintro e w9 ⟨⟨v9, rfl, h9⟩, hb9⟩
  have H9 := Lib.hid h9
  have B9 := Lib.hid (zaa B8.out hb9)
  have D9 := Lib.hid (IsP.stb.next D8.out hb9)
  have R9 := Lib.hid (R8.out.next hb9)
  have G9 := Lib.hid (IsR.stb.next G8.out hb9)
  have S9 := Lib.hid (S8.out.next hb9)
  clear h9 hb9 B8 D8 R8 G8 S8
  go_wp2_with fail
  refine (best_l _).mono ?_
  rintro e wa ⟨⟨va, rfl, ha⟩, hba⟩
  have Ha := Lib.hid (IsP.stb.next H9.out hba)
  have Sa := Lib.hid ha
  have Ba := Lib.hid (zaa B9.out hba)
  have Da' := Lib.hid (IsP.stb.next D9.out hba)
  have Ra := Lib.hid (R9.out.next hba)
  have G9' := Lib.hid (IsR.stb.next G9.out hba)
  have S9' := Lib.hid (S9.out.next hba)
  clear ha hba B9 D9 R9 G9 S9 H9
  go_wp2_with fail
  refine (accepts_1 (b := true) Ha.out Sa.out (Bru.next HB.out Ba.out) (chkP_raw good_ex) rfl (fun v hv W hW => by
    have h := optProves_l (b2 := true) (b3 := true) (IsPS.to hv (zag hW)) (Bru.next HB.out (zaa Ba.out hW)) (fun _ => ⟨_, _, _, _, best_opt, ex_best.1.symm, ex_best.2.symm⟩)
    rw [best_proper] at h
    exact h)).mono ?_
  rintro e wb ⟨rfl, hbb⟩
  have Bb := Lib.hid (zaa Ba.out hbb)
  have Db' := Lib.hid (IsP.stb.next Da'.out hbb)
  have Rb := Lib.hid (Ra.out.next hbb)
  have Gb' := Lib.hid (IsR.stb.next G9'.out hbb)
  have Sb := Lib.hid (S9'.out.next hbb)
  clear hbb Ba Da' Ra G9' S9' Ha Sa
  go_wp2_with fail
  refine zeh zde (by kernel_rfl) awPhi_stb (by kernel_rfl) ?step ?fin
  case fin =>
    intro a W hsz hdf hbw hfree hall
    obtain ⟨⟨l⟩, df⟩ := a
    replace hsz : l.length = 59 := hsz
    obtain ⟨t0, l0, rfl, hsz0⟩ := zak hsz
    obtain ⟨t1, l1, rfl, hsz1⟩ := zak hsz0
    obtain ⟨t2, l2, rfl, hsz2⟩ := zak hsz1
    obtain ⟨t3, l3, rfl, hsz3⟩ := zak hsz2
    obtain ⟨t4, l4, rfl, hsz4⟩ := zak hsz3
    obtain ⟨t5, l5, rfl, hsz5⟩ := zak hsz4
    obtain ⟨t6, l6, rfl, hsz6⟩ := zak hsz5
    obtain ⟨t7, l7, rfl, hsz7⟩ := zak hsz6
    obtain ⟨t8, l8, rfl, hsz8⟩ := zak hsz7
    obtain ⟨t9, l9, rfl, hsz9⟩ := zak hsz8
    obtain ⟨t10, l10, rfl, hsz10⟩ := zak hsz9
    obtain ⟨t11, l11, rfl, hsz11⟩ := zak hsz10
    obtain ⟨t12, l12, rfl, hsz12⟩ := zak hsz11
    obtain ⟨t13, l13, rfl, hsz13⟩ := zak hsz12
    obtain ⟨t14, l14, rfl, hsz14⟩ := zak hsz13
    obtain ⟨t15, l15, rfl, hsz15⟩ := zak hsz14
    obtain ⟨t16, l16, rfl, hsz16⟩ := zak hsz15
    obtain ⟨t17, l17, rfl, hsz17⟩ := zak hsz16
    obtain ⟨t18, l18, rfl, hsz18⟩ := zak hsz17
    obtain ⟨t19, l19, rfl, hsz19⟩ := zak hsz18
    obtain ⟨t20, l20, rfl, hsz20⟩ := zak hsz19
    obtain ⟨t21, l21, rfl, hsz21⟩ := zak hsz20
    obtain ⟨t22, l22, rfl, hsz22⟩ := zak hsz21
    obtain ⟨t23, l23, rfl, hsz23⟩ := zak hsz22
    obtain ⟨t24, l24, rfl, hsz24⟩ := zak hsz23
    obtain ⟨t25, l25, rfl, hsz25⟩ := zak hsz24
    obtain ⟨t26, l26, rfl, hsz26⟩ := zak hsz25
    obtain ⟨t27, l27, rfl, hsz27⟩ := zak hsz26
    obtain ⟨t28, l28, rfl, hsz28⟩ := zak hsz27
    obtain ⟨t29, l29, rfl, hsz29⟩ := zak hsz28
    obtain ⟨t30, l30, rfl, hsz30⟩ := zak hsz29
    obtain ⟨t31, l31, rfl, hsz31⟩ := zak hsz30
    obtain ⟨t32, l32, rfl, hsz32⟩ := zak hsz31
    obtain ⟨t33, l33, rfl, hsz33⟩ := zak hsz32
    obtain ⟨t34, l34, rfl, hsz34⟩ := zak hsz33
    obtain ⟨t35, l35, rfl, hsz35⟩ := zak hsz34
    obtain ⟨t36, l36, rfl, hsz36⟩ := zak hsz35
    obtain ⟨t37, l37, rfl, hsz37⟩ := zak hsz36
    obtain ⟨t38, l38, rfl, hsz38⟩ := zak hsz37
    obtain ⟨t39, l39, rfl, hsz39⟩ := zak hsz38
    obtain ⟨t40, l40, rfl, hsz40⟩ := zak hsz39
    obtain ⟨t41, l41, rfl, hsz41⟩ := zak hsz40
    obtain ⟨t42, l42, rfl, hsz42⟩ := zak hsz41
    obtain ⟨t43, l43, rfl, hsz43⟩ := zak hsz42
    obtain ⟨t44, l44, rfl, hsz44⟩ := zak hsz43
    obtain ⟨t45, l45, rfl, hsz45⟩ := zak hsz44
    obtain ⟨t46, l46, rfl, hsz46⟩ := zak hsz45
    obtain ⟨t47, l47, rfl, hsz47⟩ := zak hsz46
    obtain ⟨t48, l48, rfl, hsz48⟩ := zak hsz47
    obtain ⟨t49, l49, rfl, hsz49⟩ := zak hsz48
    obtain ⟨t50, l50, rfl, hsz50⟩ := zak hsz49
    obtain ⟨t51, l51, rfl, hsz51⟩ := zak hsz50
    obtain ⟨t52, l52, rfl, hsz52⟩ := zak hsz51
    obtain ⟨t53, l53, rfl, hsz53⟩ := zak hsz52
    obtain ⟨t54, l54, rfl, hsz54⟩ := zak hsz53
    obtain ⟨t55, l55, rfl, hsz55⟩ := zak hsz54
    obtain ⟨t56, l56, rfl, hsz56⟩ := zak hsz55
    obtain ⟨t57, l57, rfl, hsz57⟩ := zak hsz56
    obtain ⟨t58, l58, rfl, hsz58⟩ := zak hsz57
    obtain rfl : l58 = [] := List.eq_nil_of_length_eq_zero hsz58
    obtain rfl : df = [] := hdf
    obtain rfl : t0 = .bool true := hall 32 _ 0 rfl rfl
    clear hall hfree
    go_wp2_with fail
    go_ret
    exact ⟨rfl, zaa Bb.out hbw⟩
  case step =>
    intro i o hi a W hsz hdf hbw hfree hdep
    obtain ⟨⟨l⟩, df⟩ := a
    replace hsz : l.length = 59 := hsz
    obtain ⟨t0, l0, rfl, hsz0⟩ := zak hsz
    obtain ⟨t1, l1, rfl, hsz1⟩ := zak hsz0
    obtain ⟨t2, l2, rfl, hsz2⟩ := zak hsz1
    obtain ⟨t3, l3, rfl, hsz3⟩ := zak hsz2
    obtain ⟨t4, l4, rfl, hsz4⟩ := zak hsz3
    obtain ⟨t5, l5, rfl, hsz5⟩ := zak hsz4
    obtain ⟨t6, l6, rfl, hsz6⟩ := zak hsz5
    obtain ⟨t7, l7, rfl, hsz7⟩ := zak hsz6
    obtain ⟨t8, l8, rfl, hsz8⟩ := zak hsz7
    obtain ⟨t9, l9, rfl, hsz9⟩ := zak hsz8
    obtain ⟨t10, l10, rfl, hsz10⟩ := zak hsz9
    obtain ⟨t11, l11, rfl, hsz11⟩ := zak hsz10
    obtain ⟨t12, l12, rfl, hsz12⟩ := zak hsz11
    obtain ⟨t13, l13, rfl, hsz13⟩ := zak hsz12
    obtain ⟨t14, l14, rfl, hsz14⟩ := zak hsz13
    obtain ⟨t15, l15, rfl, hsz15⟩ := zak hsz14
    obtain ⟨t16, l16, rfl, hsz16⟩ := zak hsz15
    obtain ⟨t17, l17, rfl, hsz17⟩ := zak hsz16
    obtain ⟨t18, l18, rfl, hsz18⟩ := zak hsz17
    obtain ⟨t19, l19, rfl, hsz19⟩ := zak hsz18
    obtain ⟨t20, l20, rfl, hsz20⟩ := zak hsz19
    obtain ⟨t21, l21, rfl, hsz21⟩ := zak hsz20
    obtain ⟨t22, l22, rfl, hsz22⟩ := zak hsz21
    obtain ⟨t23, l23, rfl, hsz23⟩ := zak hsz22
    obtain ⟨t24, l24, rfl, hsz24⟩ := zak hsz23
    obtain ⟨t25, l25, rfl, hsz25⟩ := zak hsz24
    obtain ⟨t26, l26, rfl, hsz26⟩ := zak hsz25
    obtain ⟨t27, l27, rfl, hsz27⟩ := zak hsz26
    obtain ⟨t28, l28, rfl, hsz28⟩ := zak hsz27
    obtain ⟨t29, l29, rfl, hsz29⟩ := zak hsz28
    obtain ⟨t30, l30, rfl, hsz30⟩ := zak hsz29
    obtain ⟨t31, l31, rfl, hsz31⟩ := zak hsz30
    obtain ⟨t32, l32, rfl, hsz32⟩ := zak hsz31
    obtain ⟨t33, l33, rfl, hsz33⟩ := zak hsz32
    obtain ⟨t34, l34, rfl, hsz34⟩ := zak hsz33
    obtain ⟨t35, l35, rfl, hsz35⟩ := zak hsz34
    obtain ⟨t36, l36, rfl, hsz36⟩ := zak hsz35
    obtain ⟨t37, l37, rfl, hsz37⟩ := zak hsz36
    obtain ⟨t38, l38, rfl, hsz38⟩ := zak hsz37
    obtain ⟨t39, l39, rfl, hsz39⟩ := zak hsz38
    obtain ⟨t40, l40, rfl, hsz40⟩ := zak hsz39
    obtain ⟨t41, l41, rfl, hsz41⟩ := zak hsz40
    obtain ⟨t42, l42, rfl, hsz42⟩ := zak hsz41
    obtain ⟨t43, l43, rfl, hsz43⟩ := zak hsz42
    obtain ⟨t44, l44, rfl, hsz44⟩ := zak hsz43
    obtain ⟨t45, l45, rfl, hsz45⟩ := zak hsz44
    obtain ⟨t46, l46, rfl, hsz46⟩ := zak hsz45
    obtain ⟨t47, l47, rfl, hsz47⟩ := zak hsz46
    obtain ⟨t48, l48, rfl, hsz48⟩ := zak hsz47
    obtain ⟨t49, l49, rfl, hsz49⟩ := zak hsz48
    obtain ⟨t50, l50, rfl, hsz50⟩ := zak hsz49
    obtain ⟨t51, l51, rfl, hsz51⟩ := zak hsz50
    obtain ⟨t52, l52, rfl, hsz52⟩ := zak hsz51
    obtain ⟨t53, l53, rfl, hsz53⟩ := zak hsz52
    obtain ⟨t54, l54, rfl, hsz54⟩ := zak hsz53
    obtain ⟨t55, l55, rfl, hsz55⟩ := zak hsz54
    obtain ⟨t56, l56, rfl, hsz56⟩ := zak hsz55
    obtain ⟨t57, l57, rfl, hsz57⟩ := zak hsz56
    obtain ⟨t58, l58, rfl, hsz58⟩ := zak hsz57
    obtain rfl : l58 = [] := List.eq_nil_of_length_eq_zero hsz58
    obtain rfl : df = [] := hdf
    match i, hi with
    | 0, hi =>
      obtain rfl := Option.some.inj hi
      obtain rfl : t2 = .int .i64 0 := Option.some.inj (hfree 2 (by kernel_rfl))
      rw [if_pos (by rfl)]
      refine zbc (Φ := zde 0) fun K hK => ?_
      clear hfree hdep
      go_simp
      exact hK (.int .i64 0) _ (Below.refl _ _) rfl
    | 1, hi =>
      obtain rfl := Option.some.inj hi
      obtain rfl : t27 = .int .i64 0 := hdep 0 _ 27 (of_decide_eq_true (by kernel_rfl)) rfl rfl
      rw [if_pos (by rfl)]
      refine zbc (Φ := zde 1) fun K hK => ?_
      clear hfree hdep
      go_simp
      exact hK (.bool true) _ (Below.refl _ _) rfl
    | 2, hi =>
      obtain rfl := Option.some.inj hi
      obtain rfl : t28 = .bool true := hdep 1 _ 28 (of_decide_eq_true (by kernel_rfl)) rfl rfl
      rw [if_pos (by rfl)]
      refine zbc (Φ := zde 2) fun K hK => ?_
      clear hfree hdep
      go_simp
      exact hK (.bool true) _ (Below.refl _ _) rfl
    | 3, hi =>
      obtain rfl := Option.some.inj hi
      obtain rfl : t1 = .pointer (some ⟨w2.heap.size, 0, none⟩) := Option.some.inj (hfree 1 (by kernel_rfl))
      obtain rfl : t29 = .bool true := hdep 2 _ 29 (of_decide_eq_true (by kernel_rfl)) rfl rfl
      obtain ⟨c0, c1, c2⟩ := zad (Rb.out.next hbw)
      rw [if_pos (by rfl)]
      refine zbc (Φ := zde 3) fun K hK => ?_
      clear hfree hdep
      go_simp
      exact hK _ _ (Below.refl _ _) (IsP.stb.next Db'.out hbw)
    | 4, hi =>
      obtain rfl := Option.some.inj hi
      obtain rfl : t29 = .bool true := hdep 2 _ 29 (of_decide_eq_true (by kernel_rfl)) rfl rfl
      rw [if_pos (by rfl)]
      refine zbc (Φ := zde 4) fun K hK => ?_
      clear hfree hdep
      go_simp
      exact hK (.slice (some ⟨W.heap.size, 0, none⟩) 2 2) _ (zas _ _) ⟨_, rfl, heap_alloc_new _ _⟩
    | 5, hi =>
      obtain rfl := Option.some.inj hi
      obtain rfl : t29 = .bool true := hdep 2 _ 29 (of_decide_eq_true (by kernel_rfl)) rfl rfl
      obtain ⟨g31, rfl, r31⟩ : ∃ g, t31 = .slice (some ⟨g, 0, none⟩) 2 2 ∧ Row W g 3 [.int .i64 (-1), .int .i64 (-1)] := hdep 4 _ 31 (of_decide_eq_true (by kernel_rfl)) rfl rfl
      rw [if_pos (by rfl)]
      refine zbc (Φ := zde 5) fun K hK => ?_
      clear hfree hdep
      go_simp
      refine (zeq (l := [-1, -1]) r31 (by decide) (by decide)).mono ?_
      rintro e w' ⟨⟨v, rfl, hv⟩, hb⟩
      exact hK v w' hb (IsV.stb.old hv)
    | 6, hi =>
      obtain rfl := Option.some.inj hi
      obtain rfl : t29 = .bool true := hdep 2 _ 29 (of_decide_eq_true (by kernel_rfl)) rfl rfl
      rw [if_pos (by rfl)]
      refine zbc (Φ := zde 6) fun K hK => ?_
      clear hfree hdep
      go_simp
      exact hK (.slice (some ⟨W.heap.size, 0, none⟩) 2 2) _ (zas _ _) ⟨_, rfl, heap_alloc_new _ _⟩
    | 7, hi =>
      obtain rfl := Option.some.inj hi
      obtain rfl : t29 = .bool true := hdep 2 _ 29 (of_decide_eq_true (by kernel_rfl)) rfl rfl
      obtain ⟨g33, rfl, r33⟩ : ∃ g, t33 = .slice (some ⟨g, 0, none⟩) 2 2 ∧ Row W g 3 [.int .i64 (-1), .int .i64 (-3)] := hdep 6 _ 33 (of_decide_eq_true (by kernel_rfl)) rfl rfl
      rw [if_pos (by rfl)]
      refine zbc (Φ := zde 7) fun K hK => ?_
      clear hfree hdep
      go_simp
      refine (zeq (l := [-1, -3]) r33 (by decide) (by decide)).mono ?_
      rintro e w' ⟨⟨v, rfl, hv⟩, hb⟩
      exact hK v w' hb (IsV.stb.old hv)
    | 8, hi =>
      obtain rfl := Option.some.inj hi
      obtain rfl : t29 = .bool true := hdep 2 _ 29 (of_decide_eq_true (by kernel_rfl)) rfl rfl
      have q32 : IsV W (Old W) t32 (rawV (zbd [-1, -1])) := hdep 5 _ 32 (of_decide_eq_true (by kernel_rfl)) rfl rfl
      have q34 : IsV W (Old W) t34 (rawV (zbd [-1, -3])) := hdep 7 _ 34 (of_decide_eq_true (by kernel_rfl)) rfl rfl
      have Q32 := Lib.hid q32
      have Q34 := Lib.hid q34
      obtain ⟨A1, a1, rfl, _⟩ := zau q32
      obtain ⟨A2, a2, rfl, _⟩ := zau q34
      clear q32 q34
      rw [if_pos (by rfl)]
      refine zbc (Φ := zde 8) fun K hK => ?_
      clear hfree hdep
      go_simp
      exact hK (.slice (some ⟨W.heap.size, 0, none⟩) 2 2) _ (zas _ _) (isM_row2 (heap_alloc_new W _) (IsV.stb.next Q32.out (zas _ _)) (IsV.stb.next Q34.out (zas _ _)))
    | 9, hi =>
      obtain rfl := Option.some.inj hi
      obtain rfl : t29 = .bool true := hdep 2 _ 29 (of_decide_eq_true (by kernel_rfl)) rfl rfl
      rw [if_pos (by rfl)]
      refine zbc (Φ := zde 9) fun K hK => ?_
      clear hfree hdep
      go_simp
      exact hK (.slice (some ⟨W.heap.size, 0, none⟩) 2 2) _ (zas _ _) ⟨_, rfl, heap_alloc_new _ _⟩
    | 10, hi =>
      obtain rfl := Option.some.inj hi
      obtain rfl : t29 = .bool true := hdep 2 _ 29 (of_decide_eq_true (by kernel_rfl)) rfl rfl
      obtain ⟨g36, rfl, r36⟩ : ∃ g, t36 = .slice (some ⟨g, 0, none⟩) 2 2 ∧ Row W g 3 [.int .i64 (-3), .int .i64 (-2)] := hdep 9 _ 36 (of_decide_eq_true (by kernel_rfl)) rfl rfl
      rw [if_pos (by rfl)]
      refine zbc (Φ := zde 10) fun K hK => ?_
      clear hfree hdep
      go_simp
      refine (zeq (l := [-3, -2]) r36 (by decide) (by decide)).mono ?_
      rintro e w' ⟨⟨v, rfl, hv⟩, hb⟩
      exact hK v w' hb (IsV.stb.old hv)
    | 11, hi =>
      obtain rfl := Option.some.inj hi
      obtain rfl : t29 = .bool true := hdep 2 _ 29 (of_decide_eq_true (by kernel_rfl)) rfl rfl
      rw [if_pos (by rfl)]
      refine zbc (Φ := zde 11) fun K hK => ?_
      clear hfree hdep
      go_simp
      exact hK (.slice (some ⟨W.heap.size, 0, none⟩) 2 2) _ (zas _ _) ⟨_, rfl, heap_alloc_new _ _⟩
    | 12, hi =>
      obtain rfl := Option.some.inj hi
      obtain rfl : t29 = .bool true := hdep 2 _ 29 (of_decide_eq_true (by kernel_rfl)) rfl rfl
      obtain ⟨g38, rfl, r38⟩ : ∃ g, t38 = .slice (some ⟨g, 0, none⟩) 2 2 ∧ Row W g 3 [.int .i64 (-4), .int .i64 (-6)] := hdep 11 _ 38 (of_decide_eq_true (by kernel_rfl)) rfl rfl
      rw [if_pos (by rfl)]
      refine zbc (Φ := zde 12) fun K hK => ?_
      clear hfree hdep
      go_simp
      refine (zeq (l := [-4, -6]) r38 (by decide) (by decide)).mono ?_
      rintro e w' ⟨⟨v, rfl, hv⟩, hb⟩
      exact hK v w' hb (IsV.stb.old hv)
    | 13, hi =>
      obtain rfl := Option.some.inj hi
      obtain rfl : t29 = .bool true := hdep 2 _ 29 (of_decide_eq_true (by kernel_rfl)) rfl rfl
      have q35 : IsM W (Old W) t35 (rawM [zbd [-1, -1], zbd [-1, -3]]) := hdep 8 _ 35 (of_decide_eq_true (by kernel_rfl)) rfl rfl
      have q37 : IsV W (Old W) t37 (rawV (zbd [-3, -2])) := hdep 10 _ 37 (of_decide_eq_true (by kernel_rfl)) rfl rfl
      have q39 : IsV W (Old W) t39 (rawV (zbd [-4, -6])) := hdep 12 _ 39 (of_decide_eq_true (by kernel_rfl)) rfl rfl
      have Q35 := Lib.hid q35
      have Q37 := Lib.hid q37
      have Q39 := Lib.hid q39
      obtain ⟨A1, a1, rfl, _⟩ := zdo q35
      obtain ⟨A2, a2, rfl, _⟩ := zau q37
      obtain ⟨A3, a3, rfl, _⟩ := zau q39
      clear q35 q37 q39
      rw [if_pos (by rfl)]
      refine zbc (Φ := zde 13) fun K hK => ?_
      clear hfree hdep
      go_simp
      exact hK _ _ (Below.refl _ _) (by show IsP W (Old W) _ (rawP (zca exQ)); rw [ex_dual]; exact isP_mk (p := rawP ⟨[zbd [-1, -1], zbd [-1, -3]], zbd [-3, -2], zbd [-4, -6]⟩) Q35.out Q37.out Q39.out)
    | 14, hi =>
      obtain rfl := Option.some.inj hi
      obtain rfl : t29 = .bool true := hdep 2 _ 29 (of_decide_eq_true (by kernel_rfl)) rfl rfl
      have q30 : IsP W (Old W) t30 (rawP (zca exQ)) := hdep 3 _ 30 (of_decide_eq_true (by kernel_rfl)) rfl rfl
      have q40 : IsP W (Old W) t40 (rawP (zca exQ)) := hdep 13 _ 40 (of_decide_eq_true (by kernel_rfl)) rfl rfl
      rw [if_pos (by rfl)]
      refine zbc (Φ := zde 14) fun K hK => ?_
      clear hfree hdep
      go_simp
      refine (same_p q30 q40).mono ?_
      rw [decide_eq_true rfl]
      rintro e w' ⟨rfl, hb⟩
      exact hK _ _ hb rfl
    | 15, hi =>
      obtain rfl := Option.some.inj hi
      obtain rfl : t29 = .bool true := hdep 2 _ 29 (of_decide_eq_true (by kernel_rfl)) rfl rfl
      obtain rfl : t41 = .bool true := hdep 14 _ 41 (of_decide_eq_true (by kernel_rfl)) rfl rfl
      rw [if_pos (by rfl)]
      refine zbc (Φ := zde 15) fun K hK => ?_
      clear hfree hdep
      go_simp
      exact hK (.bool true) _ (Below.refl _ _) rfl
    | 16, hi =>
      obtain rfl := Option.some.inj hi
      obtain rfl : t42 = .bool true := hdep 15 _ 42 (of_decide_eq_true (by kernel_rfl)) rfl rfl
      rw [if_pos (by rfl)]
      refine zbc (Φ := zde 16) fun K hK => ?_
      clear hfree hdep
      go_simp
      exact hK (.bool true) _ (Below.refl _ _) rfl
    | 17, hi =>
      obtain rfl := Option.some.inj hi
      obtain rfl : t4 = .int .i64 0 := Option.some.inj (hfree 4 (by kernel_rfl))
      obtain rfl : t43 = .bool true := hdep 16 _ 43 (of_decide_eq_true (by kernel_rfl)) rfl rfl
      rw [if_pos (by rfl)]
      refine zbc (Φ := zde 17) fun K hK => ?_
      clear hfree hdep
      go_simp
      exact hK (.int .i64 0) _ (Below.refl _ _) rfl
    | 18, hi =>
      obtain rfl := Option.some.inj hi
      obtain rfl : t43 = .bool true := hdep 16 _ 43 (of_decide_eq_true (by kernel_rfl)) rfl rfl
      obtain rfl : t44 = .int .i64 0 := hdep 17 _ 44 (of_decide_eq_true (by kernel_rfl)) rfl rfl
      rw [if_pos (by rfl)]
      refine zbc (Φ := zde 18) fun K hK => ?_
      clear hfree hdep
      go_simp
      exact hK (.bool true) _ (Below.refl _ _) rfl
    | 19, hi =>
      obtain rfl := Option.some.inj hi
      obtain rfl : t43 = .bool true := hdep 16 _ 43 (of_decide_eq_true (by kernel_rfl)) rfl rfl
      obtain rfl : t45 = .bool true := hdep 18 _ 45 (of_decide_eq_true (by kernel_rfl)) rfl rfl
      rw [if_pos (by rfl)]
      refine zbc (Φ := zde 19) fun K hK => ?_
      clear hfree hdep
      go_simp
      exact hK (.bool true) _ (Below.refl _ _) rfl
    | 20, hi =>
      obtain rfl := Option.some.inj hi
      obtain rfl : t46 = .bool true := hdep 19 _ 46 (of_decide_eq_true (by kernel_rfl)) rfl rfl
      rw [if_pos (by rfl)]
      refine zbc (Φ := zde 20) fun K hK => ?_
      clear hfree hdep
      go_simp
      exact hK (.bool true) _ (Below.refl _ _) rfl
    | 21, hi =>
      obtain rfl := Option.some.inj hi
      obtain rfl : t3 = .pointer (some ⟨w7.heap.size, 0, none⟩) := Option.some.inj (hfree 3 (by kernel_rfl))
      obtain rfl : t47 = .bool true := hdep 20 _ 47 (of_decide_eq_true (by kernel_rfl)) rfl rfl
      obtain ⟨c0, c1, c2⟩ := zad (Sb.out.next hbw)
      rw [if_pos (by rfl)]
      refine zbc (Φ := zde 21) fun K hK => ?_
      clear hfree hdep
      go_simp
      exact hK _ _ (Below.refl _ _) (IsR.stb.next Gb'.out hbw)
    | 22, hi =>
      obtain rfl := Option.some.inj hi
      obtain rfl : t47 = .bool true := hdep 20 _ 47 (of_decide_eq_true (by kernel_rfl)) rfl rfl
      rw [if_pos (by rfl)]
      refine zbc (Φ := zde 22) fun K hK => ?_
      clear hfree hdep
      go_simp
      refine (ratof_q (a := 1) (b := 1) (by omega) (by omega) (by omega)).mono ?_
      rintro e w' ⟨⟨v, rfl, hv⟩, hb⟩
      exact hK v w' hb (IsQ.stb.old hv)
    | 23, hi =>
      obtain rfl := Option.some.inj hi
      obtain rfl : t47 = .bool true := hdep 20 _ 47 (of_decide_eq_true (by kernel_rfl)) rfl rfl
      have q48 : IsR W (Old W) t48 (raw (zea 1 1)) := hdep 21 _ 48 (of_decide_eq_true (by kernel_rfl)) rfl rfl
      have q49 : IsQ W (Old W) t49 (zea 1 1) := hdep 22 _ 49 (of_decide_eq_true (by kernel_rfl)) rfl rfl
      rw [if_pos (by rfl)]
      refine zbc (Φ := zde 23) fun K hK => ?_
      clear hfree hdep
      go_simp
      refine (same_r q48 q49).mono ?_
      rw [decide_eq_true rfl]
      rintro e w' ⟨rfl, hb⟩
      exact hK _ _ hb rfl
    | 24, hi =>
      obtain rfl := Option.some.inj hi
      obtain rfl : t47 = .bool true := hdep 20 _ 47 (of_decide_eq_true (by kernel_rfl)) rfl rfl
      obtain rfl : t50 = .bool true := hdep 23 _ 50 (of_decide_eq_true (by kernel_rfl)) rfl rfl
      rw [if_pos (by rfl)]
      refine zbc (Φ := zde 24) fun K hK => ?_
      clear hfree hdep
      go_simp
      exact hK (.bool true) _ (Below.refl _ _) rfl
    | 25, hi =>
      obtain rfl := Option.some.inj hi
      obtain rfl : t51 = .bool true := hdep 24 _ 51 (of_decide_eq_true (by kernel_rfl)) rfl rfl
      rw [if_pos (by rfl)]
      refine zbc (Φ := zde 25) fun K hK => ?_
      clear hfree hdep
      go_simp
      exact hK (.bool true) _ (Below.refl _ _) rfl
    | 26, hi =>
      obtain rfl := Option.some.inj hi
      obtain rfl : t5 = .bool true := Option.some.inj (hfree 5 (by kernel_rfl))
      obtain rfl : t52 = .bool true := hdep 25 _ 52 (of_decide_eq_true (by kernel_rfl)) rfl rfl
      rw [if_pos (by rfl)]
      refine zbc (Φ := zde 26) fun K hK => ?_
      clear hfree hdep
      go_simp
      exact hK (.bool true) _ (Below.refl _ _) rfl
    | 27, hi =>
      obtain rfl := Option.some.inj hi
      obtain rfl : t52 = .bool true := hdep 25 _ 52 (of_decide_eq_true (by kernel_rfl)) rfl rfl
      obtain rfl : t53 = .bool true := hdep 26 _ 53 (of_decide_eq_true (by kernel_rfl)) rfl rfl
      rw [if_pos (by rfl)]
      refine zbc (Φ := zde 27) fun K hK => ?_
      clear hfree hdep
      go_simp
      exact hK (.bool true) _ (Below.refl _ _) rfl
    | 28, hi =>
      obtain rfl := Option.some.inj hi
      obtain rfl : t54 = .bool true := hdep 27 _ 54 (of_decide_eq_true (by kernel_rfl)) rfl rfl
      rw [if_pos (by rfl)]
      refine zbc (Φ := zde 28) fun K hK => ?_
      clear hfree hdep
      go_simp
      exact hK (.bool true) _ (Below.refl _ _) rfl
    | 29, hi =>
      obtain rfl := Option.some.inj hi
      obtain rfl : t6 = .int .i64 0 := Option.some.inj (hfree 6 (by kernel_rfl))
      obtain rfl : t55 = .bool true := hdep 28 _ 55 (of_decide_eq_true (by kernel_rfl)) rfl rfl
      rw [if_pos (by rfl)]
      refine zbc (Φ := zde 29) fun K hK => ?_
      clear hfree hdep
      go_simp
      exact hK (.int .i64 0) _ (Below.refl _ _) rfl
    | 30, hi =>
      obtain rfl := Option.some.inj hi
      obtain rfl : t55 = .bool true := hdep 28 _ 55 (of_decide_eq_true (by kernel_rfl)) rfl rfl
      obtain rfl : t56 = .int .i64 0 := hdep 29 _ 56 (of_decide_eq_true (by kernel_rfl)) rfl rfl
      rw [if_pos (by rfl)]
      refine zbc (Φ := zde 30) fun K hK => ?_
      clear hfree hdep
      go_simp
      exact hK (.bool true) _ (Below.refl _ _) rfl
    | 31, hi =>
      obtain rfl := Option.some.inj hi
      obtain rfl : t55 = .bool true := hdep 28 _ 55 (of_decide_eq_true (by kernel_rfl)) rfl rfl
      obtain rfl : t57 = .bool true := hdep 30 _ 57 (of_decide_eq_true (by kernel_rfl)) rfl rfl
      rw [if_pos (by rfl)]
      refine zbc (Φ := zde 31) fun K hK => ?_
      clear hfree hdep
      go_simp
      exact hK (.bool true) _ (Below.refl _ _) rfl
    | 32, hi =>
      obtain rfl := Option.some.inj hi
      obtain rfl : t58 = .bool true := hdep 31 _ 58 (of_decide_eq_true (by kernel_rfl)) rfl rfl
      rw [if_pos (by rfl)]
      refine zbc (Φ := zde 32) fun K hK => ?_
      clear hfree hdep
      go_simp
      exact hK (.bool true) _ (Below.refl _ _) rfl
    | _ + 33, hi => cases hi
end Go.Proofs.YtblpaocignlpkaaGreatDoor
namespace Go.Proofs.YtblpaocignlpkaaGreatDoor
open Go.RowKit Go.WideShapes Go.ChangeShapes
set_option linter.unusedVariables false
theorem own : ownKnob Tryz.prog.godebug = none := by kernel_rfl
theorem laidOut : laidOutB Tryz.prog = true := by kernel_rfl
section
variable {H : Type} {enc : TypeId × Value → H} {P : Program}
theorem post_below {f : Func} {s : ChangeSpec} {apart fresh handsOn again : Bool} {W W' : World} {args : Array Value} {v : Value} {ds gs : List (DataW H)} {before pa pv : List MemPlace}
    (hW : DataW.Whole enc P f.params.toList s.vars apart W args.toList ds gs before)
    (hres : ∀ (b : Nat) (sp : Nat → Bool) (hd : Bool), DataW.TrodAll enc P W' b sp hd f.resultTypes.toList (v.resultList f.resultTypes.size) (s.fn H (ds ++ gs)).results [])
    (hargs : ∀ sp : Nat → Bool, (∀ p ∈ before, sp p.block = true) → DataW.TrodAll enc P W' 0 sp true f.params.toList args.toList (s.fn H (ds ++ gs)).args pa)
    (hvars : ∀ sp : Nat → Bool, (∀ p ∈ before, sp p.block = true) → DataW.TrodVars enc P W' sp s.vars (s.fn H (ds ++ gs)).vars pv)
    (hps : before = pa ++ pv) (hb : Below W.heap.size W W')
    (hok : ∀ (j : Nat) (t : TypeId) (r : Value), f.resultTypes[j]? = some t → (v.resultList f.resultTypes.size)[j]? = some r → Value.okWide P W' .any 0 t r) :
    s.post enc P f apart fresh handsOn again W args v W' := by
  have hlt : ∀ p ∈ before, p.block < W.heap.size := fun p hp => hW.lt p hp
  have hold : ∀ p ∈ before, (fun b => decide (b < W.heap.size)) p.block = true := fun p hp => by simpa using hlt p hp
  refine ⟨ds, gs, before, [], pa, pv, hW, hres _ _ _, hargs _ hold, hvars _ hold, World.keptBut_mono (fun p hp => ⟨hp, ?_⟩) (hb.frame (· ∈ before)), fun _ => ?_⟩
  · rw [hps, List.mem_append] at hp
    exact Or.inr hp
  · obtain ⟨_, _, _, _, _, hz, hn⟩ := hW
    refine ⟨hok, _, _, ([] ++ pa) ++ pv, ⟨[] ++ pa, pv, trodAll_append (hargs _ (fun _ _ => rfl)) (hres _ _ _), hvars _ (fun _ _ => rfl), rfl, ?_, ?_⟩, ?_⟩
    · intro b off hp
      have hin : MemPlace.cell b off ∈ before := by rw [hps]; simpa using hp
      rw [hb.frozen (hlt _ hin)]
      exact hz b off hin
    · intro ha
      have := hn ha
      rw [hps] at this
      simpa using this
    · intro p hp _
      rw [hps]
      simpa using hp
theorem open_nums {t e : TypeId} {k : IntKind} {w : World} {base0 base : Nat} {sp : Nat → Bool} {held : Bool} {v : Value} {d : DataW H} {ps : List MemPlace} (ht : P.underlying t = some (.slice e)) (he : P.underlying e = some (.int k)) (hc : P.cellsOf e = 1)
    (hk : ∀ n, (Lit.int k n).wf = true → 0 ≤ n) (hlt : ∀ x ∈ ps, x.block < w.heap.size) (hval : Value.okWide P w .any base0 t v) (h : DataW.Trod enc P w base sp held t v d ps) :
    ∃ l : List Nat, IsL k w 0 w.heap.size v l ∧ ∀ n ∈ l, (Lit.int k (n : Int)).wf = true := by
  obtain ⟨a, len, cap, rfl⟩ := okWide_slice ht hval
  obtain ⟨fuel, hf⟩ := h
  rcases open_ints ht he hc hf with ⟨hcs, _⟩ | ⟨x, l, c, zs, hcs, _, hl, hm, hz, hx, hcell, hwz⟩
  · simp [Value.cells] at hcs
    obtain ⟨rfl, rfl, rfl⟩ := hcs
    exact ⟨[], ⟨none, 0, rfl, Nat.le_refl _, Nat.zero_le _, SV.nil⟩, fun n hn => by simp at hn⟩
  · simp [Value.cells] at hcs
    obtain ⟨rfl, rfl, rfl⟩ := hcs
    have hlz : len ≤ zs.length := by rw [hz]; split <;> omega
    have hlen : ((zs.take len).map Int.toNat).length = len := by simp; omega
    refine ⟨(zs.take len).map Int.toNat, ⟨some x, cap, by rw [hlen], by rw [hlen]; exact hl, hm, fun hne => ?_⟩, fun n hn => ?_⟩
    · have hpos : 0 < zs.length := by
        rcases Nat.eq_zero_or_pos zs.length with h0 | h0
        · exact absurd (by rw [List.length_eq_zero_iff.1 h0]; simp [cel]) hne
        · exact h0
      obtain ⟨b, off, rfl, hcc⟩ := ints_at hcell hpos
      simp only [Prod.mk.injEq] at hx
      refine ⟨b, off, rfl, Nat.zero_le _, ?_, fun j u hu => ?_⟩
      · exact hlt (.cell b off) (by rw [hx.2]; exact MemPlace.mem_row.2 ⟨0, hpos, rfl⟩)
      · rw [cel_getElem?, List.getElem?_map, List.getElem?_take] at hu
        split at hu
        case isFalse => simp at hu
        case isTrue hj =>
          have hjz : j < zs.length := by omega
          rw [List.getElem?_eq_getElem hjz] at hu
          simp only [Option.map_some, Option.some.injEq] at hu
          subst hu
          rw [hcc j hjz, List.getD_eq_getElem?_getD, List.getElem?_eq_getElem hjz, Option.getD_some]
          rw [Int.toNat_of_nonneg (hk _ (hwz _ (List.getElem_mem hjz)))]
    · simp only [List.mem_map] at hn
      obtain ⟨z, hz', rfl⟩ := hn
      have hw := hwz z (List.mem_of_mem_take hz')
      rw [Int.toNat_of_nonneg (hk _ hw)]
      exact hw
end
theorem wf_u32 : ∀ n : Int, (Lit.int .u32 n).wf = true → 0 ≤ n := fun n h => by
  rw [Lit.wf, Bool.and_eq_true, decide_eq_true_eq] at h
  exact h.1
end Go.Proofs.YtblpaocignlpkaaGreatDoor
namespace Go.Proofs.YtblpaocignlpkaaGreatDoor
open Go.RowKit Go.WideShapes Go.ChangeShapes Go.Deep
set_option linter.unusedVariables false
section
variable {H : Type} {enc : TypeId × Value → H} {w : World} {base : Nat} {sp : Nat → Bool} {held : Bool}
theorem isV_lenR {w : World} {S : Nat → Prop} {v : Value} {l : List Raw} (h : IsV w S v l) : ∃ A c, v = .slice A l.length c ∧ True := by
  obtain ⟨A, c, es, rfl, _⟩ := h
  exact ⟨A, c, rfl, trivial⟩
theorem spot_none {w : World} {a : Addr} {v : Value} (h : w.cell? a = some v) : ∃ b off, a = ⟨b, off, none⟩ := by
  obtain ⟨b, off, spot⟩ := a
  have hspot : spot = none := by simpa [Addr.add] using World.cell?_spot h
  subst hspot
  exact ⟨b, off, rfl⟩
theorem isS_trod {α : Type} {C : Nat} {R : World → (Nat → Prop) → Value → α → Prop} {P : Program} {t e : TypeId} {fuel : Nat} {v : Value} {x : DataW H × List MemPlace} (ht : P.underlying t = some (.slice e)) (hC : P.cellsOf e = C) (hC0 : 0 < C)
    (hel : ∀ n cs y, DataW.trod enc P w base sp held n e cs = some y → cs.length = C → (∀ p ∈ y.2, p.block < w.heap.size) → ∃ ev z, R w (Old w) ev z ∧ ev.cells.toList = cs)
    (h : DataW.trod enc P w base sp held fuel t [v] = some x) (hlt : ∀ p ∈ x.2, p.block < w.heap.size) : ∃ l : List α, IsS C R w (Old w) v l := by
  rcases open_slice ht h with ⟨hv, _⟩ | ⟨a, len, cap, m, n, D, Pl, hv, hb, hl, hm, hmm, hx, hi⟩
  · simp only [List.cons.injEq, and_true] at hv
    subst hv
    exact ⟨[], IsS.nil⟩
  · simp only [List.cons.injEq, and_true] at hv
    subst hv
    have hlm : len ≤ m := by rw [hmm]; split <;> omega
    have h1 : ∀ i : Nat, i < len → ∃ ev z, R w (Old w) ev z ∧ ev.cells.size = C ∧ ∀ j, j < C → w.cell? (a.add (i * C + j)) = ev.cells[j]? := by
      intro i hil
      obtain ⟨cs', hc, htr⟩ := hi i (by omega)
      rw [hC] at hc
      obtain ⟨_, hcl, hat⟩ := World.cells?_some hc
      obtain ⟨ev, z, hR, hcs⟩ := hel n cs' _ htr hcl (fun p hp => hlt p (by rw [hx]; exact List.mem_append.2 (.inr (List.mem_flatMap.2 ⟨i, List.mem_range.2 (by omega), hp⟩))))
      refine ⟨ev, z, hR, by rw [← hcl, ← hcs, Array.length_toList], fun j hj => ?_⟩
      rw [← Go.Deep.add_add, hat j hj, ← hcs]
      simp
    obtain ⟨es, hes, zs, hzs, hall⟩ : ∃ es : List Value, es.length = len ∧ ∃ zs : List α, zs.length = len ∧ ∀ i e z, es[i]? = some e → zs[i]? = some z → R w (Old w) e z ∧ e.cells.size = C ∧ ∀ j, j < C → w.cell? (a.add (i * C + j)) = e.cells[j]? := by
      clear hx hi hmm hl hlm hm h
      revert h1
      induction len with
      | zero => intro _; exact ⟨[], rfl, [], rfl, fun i e z he => by simp at he⟩
      | succ k ih =>
        intro h1
        obtain ⟨es, hes, zs, hzs, hall⟩ := ih (fun i hi => h1 i (by omega))
        obtain ⟨e, z, he⟩ := h1 k (by omega)
        refine ⟨es ++ [e], by simp [hes], zs ++ [z], by simp [hzs], fun i e' z' he' hz' => ?_⟩
        rw [List.getElem?_append] at he' hz'
        by_cases hik : i < k
        · rw [if_pos (by omega)] at he' hz'
          exact hall i e' z' he' hz'
        · rw [if_neg (by omega)] at he' hz'
          have h0 : i - k = 0 := by
            rcases Nat.eq_zero_or_pos (i - k) with h2 | h2
            · exact h2
            · rw [List.getElem?_eq_none (by simp; omega)] at he'; cases he'
          have hki : i = k := by omega
          subst hki
          rw [hes, Nat.sub_self] at he'
          rw [hzs, Nat.sub_self] at hz'
          simp at he' hz'
          subst he' hz'
          exact he
    have hW : Wid C es := fun e he => by
      obtain ⟨i, hi⟩ := List.getElem?_of_mem he
      have hil : i < zs.length := by have := (List.getElem?_eq_some_iff.1 hi).1; omega
      exact (hall i e zs[i] hi (List.getElem?_eq_getElem hil)).2.1
    refine ⟨zs, some a, cap, es, by rw [hzs], by rw [hzs]; exact hl, hm, fun hne => ?_, hW, ⟨by rw [hes, hzs], fun j e z he hz => (hall j e z he hz).1⟩⟩
    have hlen : 0 < len := by
      rcases Nat.eq_zero_or_pos len with h0 | h0
      · rw [h0] at hes
        exact absurd (by rw [List.length_eq_zero_iff.1 hes]; rfl) hne
      · exact h0
    have hat : ∀ j u, (cellsOf es)[j]? = some u → w.cell? (a.add j) = some u := by
      intro j u hu
      have hj : j < es.length * C := by rw [← zdk hW]; exact (List.getElem?_eq_some_iff.1 hu).1
      have hjC : j / C < es.length := Nat.div_lt_of_lt_mul (by rw [Nat.mul_comm]; exact hj)
      have hr : j % C < C := Nat.mod_lt _ hC0
      have hdm : j / C * C + j % C = j := Nat.div_add_mod' j C
      have he := List.getElem?_eq_getElem hjC
      have hz := List.getElem?_eq_getElem (l := zs) (i := j / C) (by omega)
      obtain ⟨_, hs, hcell⟩ := hall _ _ _ he hz
      have hu2 : (es[j / C]'hjC).cells[j % C]? = some ((es[j / C]'hjC).cells[j % C]'(by omega)) := Array.getElem?_eq_getElem (by omega)
      have h3 := zfa hW he hu2
      rw [hdm, hu] at h3
      have h4 := hcell (j % C) hr
      rw [hdm, hu2] at h4
      rw [h4, h3]
    have h0 : ∃ u, (cellsOf es)[0]? = some u := ⟨_, List.getElem?_eq_getElem (by rw [zdk hW, hes]; exact Nat.mul_pos hlen hC0)⟩
    obtain ⟨u0, hu0⟩ := h0
    obtain ⟨b, off, hab⟩ := spot_none (by have := hat 0 u0 hu0; simpa [Addr.add] using this : w.cell? a = some u0)
    subst hab
    refine ⟨b, off, rfl, ?_, fun j u hu => ?_⟩
    · exact World.block_lt_of_cell? w _ (by have := hat 0 u0 hu0; simpa [Addr.add] using this : w.cell? ⟨b, off, none⟩ = some u0)
    · rw [← Go.WideShapes.add_plain]
      exact hat j u hu
theorem nat_trod {t : TypeId} {fuel : Nat} {v : Value} {x : DataW H × List MemPlace} (ht : Tryz.prog.underlying t = some (.slice 103)) (h : DataW.trod enc Tryz.prog w base sp held fuel t [v] = some x) : ∃ l : List Nat, IsK .u32 w (Old w) v l := by
  rcases open_ints ht Tryz.underlying103 (by kernel_rfl) h with ⟨hv, _⟩ | ⟨a, len, cap, zs, hv, _, hl, hm, hz, hx, hcell, hwz⟩
  · simp only [List.cons.injEq, and_true] at hv
    subst hv
    exact ⟨[], none, 0, rfl, Nat.le_refl _, Nat.zero_le _, SVS.nil⟩
  · simp only [List.cons.injEq, and_true] at hv
    subst hv
    have hlz : len ≤ zs.length := by rw [hz]; split <;> omega
    have hlen : ((zs.take len).map Int.toNat).length = len := by simp; omega
    refine ⟨(zs.take len).map Int.toNat, some a, cap, by rw [hlen], by rw [hlen]; exact hl, hm, fun hne => ?_⟩
    have hpos : 0 < zs.length := by
      rcases Nat.eq_zero_or_pos zs.length with h0 | h0
      · exact absurd (by rw [List.length_eq_zero_iff.1 h0]; simp [cel]) hne
      · exact h0
    obtain ⟨b, off, rfl, hcc⟩ := ints_at hcell hpos
    refine ⟨b, off, rfl, World.block_lt_of_cell? w _ (hcc 0 hpos), fun j u hu => ?_⟩
    rw [cel_getElem?, List.getElem?_map, List.getElem?_take] at hu
    split at hu
    case isFalse => simp at hu
    case isTrue hj =>
      have hjz : j < zs.length := by omega
      rw [List.getElem?_eq_getElem hjz] at hu
      simp only [Option.map_some, Option.some.injEq] at hu
      subst hu
      rw [hcc j hjz, List.getD_eq_getElem?_getD, List.getElem?_eq_getElem hjz, Option.getD_some]
      rw [Int.toNat_of_nonneg (wf_u32 _ (hwz _ (List.getElem_mem hjz)))]
set_option maxRecDepth 100000 in
theorem rat_trod {fuel : Nat} {cs : List Value} {x : DataW H × List MemPlace} (h : DataW.trod enc Tryz.prog w base sp held fuel 31 cs = some x) :
    ∃ (s : Bool) (vn vd : Value) (r : Raw), cs = [.bool s, vn, vd] ∧ IsR w (Old w) (.agg #[.bool s, vn, vd]) r ∧ r.neg = s := by
  obtain ⟨ys, n, _, _, hlen, hyl, hf⟩ := DataW.trod_struct Tryz.underlying31 h
  have hc : Tryz.prog.cellsOf 31 = 3 := by kernel_rfl
  rw [hc] at hlen
  match cs, hlen with
  | [a, b, c], _ =>
    have l3 : ys.length = 3 := hyl
    have f0 : DataW.trod enc Tryz.prog w base sp held n 4 (([a, b, c].drop 0).take (Tryz.prog.cellsOf 4)) = ys[0]? := hf 0 _ rfl
    have f1 : DataW.trod enc Tryz.prog w base sp held n 29 (([a, b, c].drop 1).take (Tryz.prog.cellsOf 29)) = ys[1]? := hf 1 _ rfl
    have f2 : DataW.trod enc Tryz.prog w base sp held n 29 (([a, b, c].drop 2).take (Tryz.prog.cellsOf 29)) = ys[2]? := hf 2 _ rfl
    have c0 : Tryz.prog.cellsOf 4 = 1 := by kernel_rfl
    have c1 : Tryz.prog.cellsOf 29 = 1 := by kernel_rfl
    simp only [c0, c1, List.drop_zero, List.drop_succ_cons, List.take_succ_cons, List.take_zero] at f0 f1 f2
    rw [List.getElem?_eq_getElem (by omega)] at f0 f1 f2
    obtain ⟨s, rfl⟩ : ∃ s, a = .bool s := by
      cases n with
      | zero => simp [DataW.trod] at f0
      | succ n =>
        unfold DataW.trod at f0
        rw [Tryz.underlying4] at f0
        cases a <;> simp at f0
        exact ⟨_, rfl⟩
    obtain ⟨ln, kn⟩ := nat_trod Tryz.underlying29 f1
    obtain ⟨ld, kd⟩ := nat_trod Tryz.underlying29 f2
    have kn' := kn
    have kd' := kd
    obtain ⟨A, k, rfl, _⟩ := kn
    obtain ⟨B, l, rfl, _⟩ := kd
    exact ⟨s, _, _, ⟨s, ln, ld⟩, rfl, ⟨A, k, B, l, rfl, kn', kd'⟩, rfl⟩
theorem zei {fuel : Nat} {v : Value} {x : DataW H × List MemPlace} (h : DataW.trod enc Tryz.prog w base sp held fuel 25 [v] = some x) (hlt : ∀ p ∈ x.2, p.block < w.heap.size) : ∃ l : List Raw, IsV w (Old w) v l :=
  isS_trod (R := IsR) Tryz.underlying25 (by kernel_rfl) (by omega) (fun n cs y hy _ _ => by
    obtain ⟨s, vn, vd, r, rfl, hr, _⟩ := rat_trod hy
    exact ⟨_, r, hr, rfl⟩) h hlt
theorem mat_trod {fuel : Nat} {v : Value} {x : DataW H × List MemPlace} (h : DataW.trod enc Tryz.prog w base sp held fuel 23 [v] = some x) (hlt : ∀ p ∈ x.2, p.block < w.heap.size) : ∃ m : List (List Raw), IsM w (Old w) v m :=
  isS_trod (R := IsV) Tryz.underlying23 (by kernel_rfl) (by omega) (fun n cs y hy hcs hp => by
    match cs, hcs with
    | [u], _ =>
      obtain ⟨l, hl⟩ := zei hy hp
      obtain ⟨A, c, rfl, _⟩ := isV_lenR hl
      exact ⟨_, l, hl, rfl⟩) h hlt
end
section
variable {H : Type} {enc : TypeId × Value → H} {w : World} {base base0 : Nat} {sp : Nat → Bool} {held : Bool}
set_option maxRecDepth 100000 in
theorem fuel_of {P : Program} {t : TypeId} {v : Value} {d : DataW H} {ps : List MemPlace} (h : DataW.Trod enc P w base sp held t v d ps) : ∃ fuel, DataW.trod enc P w base sp held fuel t v.cells.toList = some (d, ps) := h
set_option maxRecDepth 100000 in
theorem open_vec {v : Value} {d : DataW H} {ps : List MemPlace} (hlt : ∀ x ∈ ps, x.block < w.heap.size) (hval : Value.okWide Tryz.prog w .any base0 25 v) (h : DataW.Trod enc Tryz.prog w base sp held 25 v d ps) : ∃ l : List Raw, IsV w (Old w) v l := by
  obtain ⟨a, len, cap, rfl⟩ := okWide_slice Tryz.underlying25 hval
  obtain ⟨fuel, hf⟩ := fuel_of h
  exact zei hf hlt
set_option maxRecDepth 100000 in
theorem open_prog {v : Value} {d : DataW H} {ps : List MemPlace} (hlt : ∀ x ∈ ps, x.block < w.heap.size) (hval : Value.okWide Tryz.prog w .any base0 27 v) (h : DataW.Trod enc Tryz.prog w base sp held 27 v d ps) : ∃ p : Prog, IsP w (Old w) v p := by
  obtain ⟨cs, rfl, _⟩ := okWide_struct Tryz.underlying27 hval
  obtain ⟨fuel, hf0⟩ := fuel_of h
  have hf1 : DataW.trod enc Tryz.prog w base sp held fuel 27 cs.toList = some (d, ps) := hf0
  obtain ⟨ys, n, _, hx, hlen, hyl, hf⟩ := DataW.trod_struct Tryz.underlying27 hf1
  have hc : Tryz.prog.cellsOf 27 = 3 := by kernel_rfl
  rw [hc] at hlen
  obtain ⟨l⟩ := cs
  simp only [Prod.mk.injEq] at hx
  match l, hlen with
  | [a, b, c], _ =>
    have l3 : ys.length = 3 := hyl
    have f0 : DataW.trod enc Tryz.prog w base sp held n 23 (([a, b, c].drop 0).take (Tryz.prog.cellsOf 23)) = ys[0]? := hf 0 _ rfl
    have f1 : DataW.trod enc Tryz.prog w base sp held n 25 (([a, b, c].drop 1).take (Tryz.prog.cellsOf 25)) = ys[1]? := hf 1 _ rfl
    have f2 : DataW.trod enc Tryz.prog w base sp held n 25 (([a, b, c].drop 2).take (Tryz.prog.cellsOf 25)) = ys[2]? := hf 2 _ rfl
    have c0 : Tryz.prog.cellsOf 23 = 1 := by kernel_rfl
    have c1 : Tryz.prog.cellsOf 25 = 1 := by kernel_rfl
    simp only [c0, c1, List.drop_zero, List.drop_succ_cons, List.take_succ_cons, List.take_zero] at f0 f1 f2
    rw [List.getElem?_eq_getElem (by omega)] at f0 f1 f2
    have hp : ∀ y ∈ ys, ∀ p ∈ y.2, p.block < w.heap.size := fun y hy p hp => hlt p (by rw [hx.2]; exact List.mem_flatMap.2 ⟨y, hy, hp⟩)
    obtain ⟨m, hm⟩ := mat_trod f0 (hp _ (List.getElem_mem _))
    obtain ⟨x, hxv⟩ := zei f1 (hp _ (List.getElem_mem _))
    obtain ⟨y, hyv⟩ := zei f2 (hp _ (List.getElem_mem _))
    exact ⟨⟨m, x, y⟩, isP_mk (p := ⟨m, x, y⟩) hm hxv hyv⟩
set_option maxRecDepth 100000 in
theorem open_sol {v : Value} {d : DataW H} {ps : List MemPlace} (hlt : ∀ x ∈ ps, x.block < w.heap.size) (hval : Value.okWide Tryz.prog w .any base0 33 v) (h : DataW.Trod enc Tryz.prog w base sp held 33 v d ps) : ∃ s : Sol, IsSol w (Old w) v s := by
  obtain ⟨cs, rfl, _⟩ := okWide_struct Tryz.underlying33 hval
  obtain ⟨fuel, hf0⟩ := fuel_of h
  have hf1 : DataW.trod enc Tryz.prog w base sp held fuel 33 cs.toList = some (d, ps) := hf0
  obtain ⟨ys, n, _, hx, hlen, hyl, hf⟩ := DataW.trod_struct Tryz.underlying33 hf1
  have hc : Tryz.prog.cellsOf 33 = 7 := by kernel_rfl
  rw [hc] at hlen
  obtain ⟨l⟩ := cs
  simp only [Prod.mk.injEq] at hx
  match l, hlen with
  | [a, b, c, e, x, y, z], _ =>
    have l5 : ys.length = 5 := hyl
    have f0 : DataW.trod enc Tryz.prog w base sp held n 3 (([a, b, c, e, x, y, z].drop 0).take (Tryz.prog.cellsOf 3)) = ys[0]? := hf 0 _ rfl
    have f1 : DataW.trod enc Tryz.prog w base sp held n 31 (([a, b, c, e, x, y, z].drop 1).take (Tryz.prog.cellsOf 31)) = ys[1]? := hf 1 _ rfl
    have f2 : DataW.trod enc Tryz.prog w base sp held n 25 (([a, b, c, e, x, y, z].drop 4).take (Tryz.prog.cellsOf 25)) = ys[2]? := hf 2 _ rfl
    have f3 : DataW.trod enc Tryz.prog w base sp held n 25 (([a, b, c, e, x, y, z].drop 5).take (Tryz.prog.cellsOf 25)) = ys[3]? := hf 3 _ rfl
    have f4 : DataW.trod enc Tryz.prog w base sp held n 25 (([a, b, c, e, x, y, z].drop 6).take (Tryz.prog.cellsOf 25)) = ys[4]? := hf 4 _ rfl
    have c0 : Tryz.prog.cellsOf 3 = 1 := by kernel_rfl
    have c1 : Tryz.prog.cellsOf 25 = 1 := by kernel_rfl
    have c2 : Tryz.prog.cellsOf 31 = 3 := by kernel_rfl
    simp only [c0, c1, c2, List.drop_zero, List.drop_succ_cons, List.take_succ_cons, List.take_zero] at f0 f1 f2 f3 f4
    rw [List.getElem?_eq_getElem (by omega)] at f0 f1 f2 f3 f4
    have hp : ∀ y ∈ ys, ∀ p ∈ y.2, p.block < w.heap.size := fun y hy p hp => hlt p (by rw [hx.2]; exact List.mem_flatMap.2 ⟨y, hy, hp⟩)
    obtain ⟨k, rfl⟩ : ∃ k, a = .int .i64 k := by
      cases n with
      | zero => simp [DataW.trod] at f0
      | succ n =>
        unfold DataW.trod at f0
        rw [Tryz.underlying3] at f0
        cases a <;> simp at f0
        obtain ⟨⟨rfl, _⟩, _⟩ := f0
        exact ⟨_, rfl⟩
    obtain ⟨s, vn, vd, r, hcs, hr, hn⟩ := rat_trod f1
    simp only [List.cons.injEq, and_true] at hcs
    obtain ⟨rfl, rfl, rfl⟩ := hcs
    obtain ⟨lx, hlx⟩ := zei f2 (hp _ (List.getElem_mem _))
    obtain ⟨ly, hly⟩ := zei f3 (hp _ (List.getElem_mem _))
    obtain ⟨lz, hlz⟩ := zei f4 (hp _ (List.getElem_mem _))
    have hlx' := hlx
    have hly' := hly
    have hlz' := hlz
    obtain ⟨A, ca, rfl, _⟩ := isV_lenR hlx
    obtain ⟨B, cb, rfl, _⟩ := isV_lenR hly
    obtain ⟨C, cc, rfl, _⟩ := isV_lenR hlz
    subst hn
    have hr' := hr
    obtain ⟨P, kp, Q, kq, hv, _⟩ := hr
    simp only [Value.agg.injEq, Array.mk.injEq, List.cons.injEq, and_true] at hv
    obtain ⟨_, rfl, rfl⟩ := hv
    exact ⟨⟨k, r, lx, ly, lz⟩, P, kp, Q, kq, A, ca, B, cb, C, cc, rfl, hr', hlx', hly', hlz'⟩
end
end Go.Proofs.YtblpaocignlpkaaGreatDoor
