/-
  The walk of the law's own awake.
-/
import Derived.Test.YtjkgdggkgljdoaaDoorVinv18
import Derived.Test.YtjkgdggkgljdoaaDoorVinv11
namespace Go.Proofs.YtjkgdggkgljdoaaDoor
open Go.RowKit
set_option linter.unusedVariables false
theorem open57 {l : List Value} (h : l.length = 57) : ∃ fs : Nat → Value, l = [fs 0, fs 1, fs 2, fs 3, fs 4, fs 5, fs 6, fs 7, fs 8, fs 9, fs 10, fs 11, fs 12, fs 13, fs 14, fs 15, fs 16, fs 17, fs 18, fs 19, fs 20, fs 21, fs 22, fs 23, fs 24, fs 25, fs 26, fs 27, fs 28, fs 29, fs 30, fs 31, fs 32, fs 33, fs 34, fs 35, fs 36, fs 37, fs 38, fs 39, fs 40, fs 41, fs 42, fs 43, fs 44, fs 45, fs 46, fs 47, fs 48, fs 49, fs 50, fs 51, fs 52, fs 53, fs 54, fs 55, fs 56] := by
  refine ⟨fun i => l.getD i undef, ?_⟩
  have e : l = (List.range 57).map (fun i => l.getD i undef) := by
    apply List.ext_getElem
    · simp [h]
    · intro i h1 h2
      simp [List.getD_eq_getElem?_getD, List.getElem?_eq_getElem h1]
  exact e.trans rfl
def Aw3 (u : Unit) (i : Nat) (v : Value) (w : World) : Prop :=
  match i with
  | 0 => v = .int .i64 0
  | 1 => v = .bool true
  | 2 => v = .bool true
  | 3 => true = true → IsR w (Old w) v (raw (zdj 11 1))
  | 4 => true = true → IsQ w (Old w) v (zdj 11 1)
  | 5 => true = true → v = .bool true
  | 6 => v = .bool true
  | 7 => v = .bool true
  | 8 => true = true → v = .int .i64 0
  | 9 => true = true → v = .bool true
  | 10 => v = .bool true
  | 11 => v = .bool true
  | 12 => true = true → IsV w (Old w) v (rawV (zbz 2 [-8, 9]))
  | 13 => true = true → ∃ g, v = .slice (some ⟨g, 0, none⟩) 2 2 ∧ Row w g 3 [.int .i64 (-8), .int .i64 9]
  | 14 => true = true → IsV w (Old w) v (rawV (zbz 2 [-8, 9]))
  | 15 => true = true → v = .bool true
  | 16 => v = .bool true
  | 17 => v = .bool true
  | 18 => true = true → v = .int .i64 0
  | 19 => true = true → v = .bool true
  | 20 => v = .bool true
  | 21 => v = .bool true
  | 22 => true = true → IsM w (Old w) v (rawM [zbz 1 [-2, 1], zbz 2 [3, -1]])
  | 23 => true = true → ∃ g, v = .slice (some ⟨g, 0, none⟩) 2 2 ∧ Row w g 3 [.int .i64 (-2), .int .i64 1]
  | 24 => true = true → IsV w (Old w) v (rawV (zbz 1 [-2, 1]))
  | 25 => true = true → ∃ g, v = .slice (some ⟨g, 0, none⟩) 2 2 ∧ Row w g 3 [.int .i64 3, .int .i64 (-1)]
  | 26 => true = true → IsV w (Old w) v (rawV (zbz 2 [3, -1]))
  | 27 => true = true → IsM w (Old w) v (rawM [zbz 1 [-2, 1], zbz 2 [3, -1]])
  | 28 => true = true → v = .bool true
  | 29 => v = .bool true
  | 30 => v = .bool true
  | _ => True
theorem aw3_stb (u : Unit) : ∀ (i : Nat) (v : Value) (w w' : World), Aw3 u i v w → Below w.heap.size w w' → Aw3 u i v w' := fun i v w w' h hb => match i, h with
  | 0, h => h
  | 1, h => h
  | 2, h => h
  | 3, h => fun hc => IsR.stb.next (h hc) hb
  | 4, h => fun hc => IsQ.stb.next (h hc) hb
  | 5, h => h
  | 6, h => h
  | 7, h => h
  | 8, h => h
  | 9, h => h
  | 10, h => h
  | 11, h => h
  | 12, h => fun hc => IsV.stb.next (h hc) hb
  | 13, h => fun hc => by obtain ⟨g, e, r⟩ := (h hc); exact ⟨g, e, r.next hb⟩
  | 14, h => fun hc => IsV.stb.next (h hc) hb
  | 15, h => h
  | 16, h => h
  | 17, h => h
  | 18, h => h
  | 19, h => h
  | 20, h => h
  | 21, h => h
  | 22, h => fun hc => IsM.stb.next (h hc) hb
  | 23, h => fun hc => by obtain ⟨g, e, r⟩ := (h hc); exact ⟨g, e, r.next hb⟩
  | 24, h => fun hc => IsV.stb.next (h hc) hb
  | 25, h => fun hc => by obtain ⟨g, e, r⟩ := (h hc); exact ⟨g, e, r.next hb⟩
  | 26, h => fun hc => IsV.stb.next (h hc) hb
  | 27, h => fun hc => IsM.stb.next (h hc) hb
  | 28, h => h
  | 29, h => h
  | 30, h => h
  | _ + 31, _ => trivial
set_option maxRecDepth 100000 in
set_option maxHeartbeats 8000000 in
theorem awake3_l {w : World} (hB : Bru w) : Calls Tryd.prog 33 #[] w fun e w' => e = .returned (.bool true) ∧ Below w.heap.size w w' := by
  have HB := Lib.hid hB
  have BB := Lib.hid (Below.refl w.heap.size w)
  clear hB
  go_enter Tryd.func33, Tryd.ntmps33
  go_wp2_with fail
  refine (whole3_l (w := w.alloc (.cells #[.int .i64 1, .int .i64 2] 3)) (l := [1, 2]) (heap_alloc_new w _) (by decide) (by decide)).mono ?_
  rintro e w1 ⟨⟨vw1, rfl, h⟩, hb⟩
  have hb' := zaa (zbt w _) hb
  replace BB := Lib.hid (zaa BB.out hb')
  have VA := Lib.hid (IsV.stb.old h)
  clear h hb hb'
  go_wp2_with fail
  refine (whole3_l (w := w1.alloc (.cells #[.int .i64 3, .int .i64 4] 3)) (l := [3, 4]) (heap_alloc_new w1 _) (by decide) (by decide)).mono ?_
  rintro e w2 ⟨⟨vw2, rfl, h⟩, hb⟩
  have hb' := zaa (zbt w1 _) hb
  replace BB := Lib.hid (zaa BB.out hb')
  replace VA := Lib.hid (IsV.stb.next VA.out hb')
  have VB := Lib.hid (IsV.stb.old h)
  clear h hb hb'
  go_wp2_with fail
  refine (adot_l VA.out VB.out (Bru.next HB.out BB.out)).mono ?_
  rintro e w3 ⟨⟨v3, rfl, h⟩, hb⟩
  have GQ := Lib.hid h
  obtain ⟨Ga, ga, Gb, gb, rfl, _, _⟩ := h
  clear VA VB
  replace BB := Lib.hid (zaa BB.out hb)
  clear hb
  obtain ⟨w4, hw4, hb4, r4, _⟩ := zcf w3 #[.bool (raw (zdj 11 1)).neg, .slice Ga (raw (zdj 11 1)).num.length ga, .slice Gb (raw (zdj 11 1)).den.length gb] 50
  replace BB := Lib.hid (zaa BB.out hb4)
  replace GQ := Lib.hid (IsR.stb.next GQ.out hb4)
  have RG := Lib.hid r4
  clear r4 hb4
  go_wp2_with fail
  clear hw4
  refine (a3_l _).mono ?_
  rintro e w5 ⟨⟨vw5, rfl, h⟩, hb⟩
  replace BB := Lib.hid (zaa BB.out hb)
  replace GQ := Lib.hid (IsR.stb.next GQ.out hb)
  replace RG := Lib.hid (RG.out.next hb)
  have MA := Lib.hid h
  clear h hb
  go_wp2_with fail
  refine (whole3_l (w := w5.alloc (.cells #[.int .i64 5, .int .i64 6] 3)) (l := [5, 6]) (heap_alloc_new w5 _) (by decide) (by decide)).mono ?_
  rintro e w6 ⟨⟨vw6, rfl, h⟩, hb⟩
  have hb' := zaa (zbt w5 _) hb
  replace BB := Lib.hid (zaa BB.out hb')
  replace GQ := Lib.hid (IsR.stb.next GQ.out hb')
  replace RG := Lib.hid (RG.out.next hb')
  replace MA := Lib.hid (IsM.stb.next MA.out hb')
  have VC := Lib.hid (IsV.stb.old h)
  clear h hb hb'
  go_wp2_with fail
  refine (asolve_l MA.out VC.out (Bru.next HB.out BB.out)).mono ?_
  rintro e w7 ⟨⟨v7, rfl, h⟩, hb⟩
  clear MA VC
  replace BB := Lib.hid (zaa BB.out hb)
  replace GQ := Lib.hid (IsR.stb.next GQ.out hb)
  replace RG := Lib.hid (RG.out.next hb)
  have VS := Lib.hid h
  clear h hb
  go_wp2_with fail
  refine (a3_l _).mono ?_
  rintro e w8 ⟨⟨vw8, rfl, h⟩, hb⟩
  replace BB := Lib.hid (zaa BB.out hb)
  replace GQ := Lib.hid (IsR.stb.next GQ.out hb)
  replace RG := Lib.hid (RG.out.next hb)
  replace VS := Lib.hid (IsV.stb.next VS.out hb)
  have MA := Lib.hid h
  clear h hb
  go_wp2_with fail
  refine (ainverse_l MA.out (Bru.next HB.out BB.out)).mono ?_
  rintro e w9 ⟨⟨v9, rfl, h⟩, hb⟩
  clear MA
  replace BB := Lib.hid (zaa BB.out hb)
  replace GQ := Lib.hid (IsR.stb.next GQ.out hb)
  replace RG := Lib.hid (RG.out.next hb)
  replace VS := Lib.hid (IsV.stb.next VS.out hb)
  have MI := Lib.hid h
  clear h hb
  go_wp2_with fail
  refine region_abs fun ops hops => ?_
  have oq0 := zax (j := 0) hops rfl
  have oq1 := zax (j := 1) hops rfl
  have oq2 := zax (j := 2) hops rfl
  have oq3 := zax (j := 3) hops rfl
  have oq4 := zax (j := 4) hops rfl
  have oq5 := zax (j := 5) hops rfl
  have oq6 := zax (j := 6) hops rfl
  have oq7 := zax (j := 7) hops rfl
  have oq8 := zax (j := 8) hops rfl
  have oq9 := zax (j := 9) hops rfl
  have oq10 := zax (j := 10) hops rfl
  have oq11 := zax (j := 11) hops rfl
  have oq12 := zax (j := 12) hops rfl
  have oq13 := zax (j := 13) hops rfl
  have oq14 := zax (j := 14) hops rfl
  have oq15 := zax (j := 15) hops rfl
  have oq16 := zax (j := 16) hops rfl
  have oq17 := zax (j := 17) hops rfl
  have oq18 := zax (j := 18) hops rfl
  have oq19 := zax (j := 19) hops rfl
  have oq20 := zax (j := 20) hops rfl
  have oq21 := zax (j := 21) hops rfl
  have oq22 := zax (j := 22) hops rfl
  have oq23 := zax (j := 23) hops rfl
  have oq24 := zax (j := 24) hops rfl
  have oq25 := zax (j := 25) hops rfl
  have oq26 := zax (j := 26) hops rfl
  have oq27 := zax (j := 27) hops rfl
  have oq28 := zax (j := 28) hops rfl
  have oq29 := zax (j := 29) hops rfl
  have oq30 := zax (j := 30) hops rfl
  have fr := fun t h => slot_abs hops t h
  refine wp_region_grow (Aw3 ()) (by kernel_rfl) (aw3_stb ()) (by rw [hops]; kernel_rfl) ?step ?fin
  case step =>
    intro i o hi a W hsz hdf hbw hfree hdep
    obtain ⟨T, df⟩ := a
    replace hsz : T.size = 57 := hsz
    obtain rfl : df = [] := hdf
    match i, hi with
    | 0, hi =>
      obtain rfl := Option.some.inj (oq0.symm.trans hi)
      have e2 : T[2]? = some (.int .i64 0) := hfree 2 (fr 2 (by kernel_rfl))
      refine zaj rfl ?_
      clear hdep hfree hsz hops fr oq0 oq1 oq2 oq3 oq4 oq5 oq6 oq7 oq8 oq9 oq10 oq11 oq12 oq13 oq14 oq15 oq16 oq17 oq18 oq19 oq20 oq21 oq22 oq23 oq24 oq25 oq26 oq27 oq28 oq29 oq30
      refine zaw fun K hK => ?_
      go_simp
      exact hK (.int .i64 0) _ (Below.refl _ _) (rfl)
    | 1, hi =>
      obtain rfl := Option.some.inj (oq1.symm.trans hi)
      have e27 : T[27]? = some (.int .i64 0) := zan (by omega) (hdep 0 _ 27 (odt (by kernel_rfl)) oq0 rfl)
      refine zaj rfl ?_
      clear hdep hfree hsz hops fr oq0 oq1 oq2 oq3 oq4 oq5 oq6 oq7 oq8 oq9 oq10 oq11 oq12 oq13 oq14 oq15 oq16 oq17 oq18 oq19 oq20 oq21 oq22 oq23 oq24 oq25 oq26 oq27 oq28 oq29 oq30
      refine zaw fun K hK => ?_
      go_simp
      exact hK (.bool true) _ (Below.refl _ _) (rfl)
    | 2, hi =>
      obtain rfl := Option.some.inj (oq2.symm.trans hi)
      have e28 : T[28]? = some (.bool true) := zan (by omega) (hdep 1 _ 28 (odt (by kernel_rfl)) oq1 rfl)
      refine zaj rfl ?_
      clear hdep hfree hsz hops fr oq0 oq1 oq2 oq3 oq4 oq5 oq6 oq7 oq8 oq9 oq10 oq11 oq12 oq13 oq14 oq15 oq16 oq17 oq18 oq19 oq20 oq21 oq22 oq23 oq24 oq25 oq26 oq27 oq28 oq29 oq30
      refine zaw fun K hK => ?_
      go_simp
      exact hK (.bool true) _ (Below.refl _ _) (rfl)
    | 3, hi =>
      obtain rfl := Option.some.inj (oq3.symm.trans hi)
      have e1 : T[1]? = some (.pointer (some ⟨w3.heap.size, 0, none⟩)) := hfree 1 (fr 1 (by kernel_rfl))
      refine zbk (T := T) (j := 2) rfl oq2 rfl (hdep 2 _ 29 (odt (by kernel_rfl)) oq2 rfl) (by omega) (fun hC e29 => ?_) (fun hC h => by first | exact absurd hC (by decide) | (rw [hC] at h; cases h))
      clear hdep hfree hsz hops fr oq0 oq1 oq2 oq3 oq4 oq5 oq6 oq7 oq8 oq9 oq10 oq11 oq12 oq13 oq14 oq15 oq16 oq17 oq18 oq19 oq20 oq21 oq22 oq23 oq24 oq25 oq26 oq27 oq28 oq29 oq30
      obtain ⟨c0, c1, c2⟩ := zad (RG.out.next hbw)
      refine zaw fun K hK => ?_
      go_simp
      exact hK (.agg #[.bool (raw (zdj 11 1)).neg, .slice Ga (raw (zdj 11 1)).num.length ga, .slice Gb (raw (zdj 11 1)).den.length gb]) _ (Below.refl _ _) (fun _ => IsR.stb.next GQ.out hbw)
    | 4, hi =>
      obtain rfl := Option.some.inj (oq4.symm.trans hi)
      refine zbk (T := T) (j := 2) rfl oq2 rfl (hdep 2 _ 29 (odt (by kernel_rfl)) oq2 rfl) (by omega) (fun hC e29 => ?_) (fun hC h => by first | exact absurd hC (by decide) | (rw [hC] at h; cases h))
      clear hdep hfree hsz hops fr oq0 oq1 oq2 oq3 oq4 oq5 oq6 oq7 oq8 oq9 oq10 oq11 oq12 oq13 oq14 oq15 oq16 oq17 oq18 oq19 oq20 oq21 oq22 oq23 oq24 oq25 oq26 oq27 oq28 oq29 oq30
      refine zaw fun K hK => ?_
      go_simp
      refine (ratof_q (a := 11) (b := 1) (by omega) (by omega) (by omega)).mono ?_
      rintro e w' ⟨⟨v, rfl, hv⟩, hb⟩
      exact hK v w' hb (fun _ => IsQ.stb.old hv)
    | 5, hi =>
      obtain rfl := Option.some.inj (oq5.symm.trans hi)
      refine zbk (T := T) (j := 2) rfl oq2 rfl (hdep 2 _ 29 (odt (by kernel_rfl)) oq2 rfl) (by omega) (fun hC e29 => ?_) (fun hC h => by first | exact absurd hC (by decide) | (rw [hC] at h; cases h))
      have d30 : IsR W (Old W) (T.getD 30 undef) (raw (zdj 11 1)) := hdep 3 _ 30 (odt (by kernel_rfl)) oq3 rfl hC
      obtain ⟨v30, e30, g30⟩ := zci (T := T) (t := 30) (by omega)
      rw [g30] at d30
      clear g30
      have d31 : IsQ W (Old W) (T.getD 31 undef) (zdj 11 1) := hdep 4 _ 31 (odt (by kernel_rfl)) oq4 rfl hC
      obtain ⟨v31, e31, g31⟩ := zci (T := T) (t := 31) (by omega)
      rw [g31] at d31
      clear g31
      clear hdep hfree hsz hops fr oq0 oq1 oq2 oq3 oq4 oq5 oq6 oq7 oq8 oq9 oq10 oq11 oq12 oq13 oq14 oq15 oq16 oq17 oq18 oq19 oq20 oq21 oq22 oq23 oq24 oq25 oq26 oq27 oq28 oq29 oq30
      refine zaw fun K hK => ?_
      go_simp
      refine (same_r d30 d31).mono ?_
      rw [decide_eq_true rfl]
      rintro e w' ⟨rfl, hb⟩
      exact hK _ w' hb (fun _ => rfl)
    | 6, hi =>
      obtain rfl := Option.some.inj (oq6.symm.trans hi)
      have e29 : T[29]? = some (.bool true) := zan (by omega) (hdep 2 _ 29 (odt (by kernel_rfl)) oq2 rfl)
      have d32 : true = true → (T.getD 32 undef) = .bool true := hdep 5 _ 32 (odt (by kernel_rfl)) oq5 rfl
      refine zaj rfl ?_
      obtain ⟨v32, e32, g32⟩ := zci (T := T) (t := 32) (by omega)
      rw [g32] at d32
      clear g32
      have hC : true = true := rfl
      · have e := d32 hC
        subst e
        clear d32
        clear hdep hfree hsz hops fr oq0 oq1 oq2 oq3 oq4 oq5 oq6 oq7 oq8 oq9 oq10 oq11 oq12 oq13 oq14 oq15 oq16 oq17 oq18 oq19 oq20 oq21 oq22 oq23 oq24 oq25 oq26 oq27 oq28 oq29 oq30
        refine zaw fun K hK => ?_
        go_simp
        exact hK (.bool true) _ (Below.refl _ _) rfl
    | 7, hi =>
      obtain rfl := Option.some.inj (oq7.symm.trans hi)
      have e33 : T[33]? = some (.bool true) := zan (by omega) (hdep 6 _ 33 (odt (by kernel_rfl)) oq6 rfl)
      refine zaj rfl ?_
      clear hdep hfree hsz hops fr oq0 oq1 oq2 oq3 oq4 oq5 oq6 oq7 oq8 oq9 oq10 oq11 oq12 oq13 oq14 oq15 oq16 oq17 oq18 oq19 oq20 oq21 oq22 oq23 oq24 oq25 oq26 oq27 oq28 oq29 oq30
      refine zaw fun K hK => ?_
      go_simp
      exact hK (.bool true) _ (Below.refl _ _) (rfl)
    | 8, hi =>
      obtain rfl := Option.some.inj (oq8.symm.trans hi)
      have e4 : T[4]? = some (.int .i64 0) := hfree 4 (fr 4 (by kernel_rfl))
      refine zbk (T := T) (j := 7) rfl oq7 rfl (hdep 7 _ 34 (odt (by kernel_rfl)) oq7 rfl) (by omega) (fun hC e34 => ?_) (fun hC h => by first | exact absurd hC (by decide) | (rw [hC] at h; cases h))
      clear hdep hfree hsz hops fr oq0 oq1 oq2 oq3 oq4 oq5 oq6 oq7 oq8 oq9 oq10 oq11 oq12 oq13 oq14 oq15 oq16 oq17 oq18 oq19 oq20 oq21 oq22 oq23 oq24 oq25 oq26 oq27 oq28 oq29 oq30
      refine zaw fun K hK => ?_
      go_simp
      exact hK (.int .i64 0) _ (Below.refl _ _) (fun _ => rfl)
    | 9, hi =>
      obtain rfl := Option.some.inj (oq9.symm.trans hi)
      refine zbk (T := T) (j := 7) rfl oq7 rfl (hdep 7 _ 34 (odt (by kernel_rfl)) oq7 rfl) (by omega) (fun hC e34 => ?_) (fun hC h => by first | exact absurd hC (by decide) | (rw [hC] at h; cases h))
      have e35 : T[35]? = some (.int .i64 0) := zan (by omega) (hdep 8 _ 35 (odt (by kernel_rfl)) oq8 rfl hC)
      clear hdep hfree hsz hops fr oq0 oq1 oq2 oq3 oq4 oq5 oq6 oq7 oq8 oq9 oq10 oq11 oq12 oq13 oq14 oq15 oq16 oq17 oq18 oq19 oq20 oq21 oq22 oq23 oq24 oq25 oq26 oq27 oq28 oq29 oq30
      refine zaw fun K hK => ?_
      go_simp
      exact hK (.bool true) _ (Below.refl _ _) (fun _ => rfl)
    | 10, hi =>
      obtain rfl := Option.some.inj (oq10.symm.trans hi)
      have e34 : T[34]? = some (.bool true) := zan (by omega) (hdep 7 _ 34 (odt (by kernel_rfl)) oq7 rfl)
      have d36 : true = true → (T.getD 36 undef) = .bool true := hdep 9 _ 36 (odt (by kernel_rfl)) oq9 rfl
      refine zaj rfl ?_
      obtain ⟨v36, e36, g36⟩ := zci (T := T) (t := 36) (by omega)
      rw [g36] at d36
      clear g36
      have hC : true = true := rfl
      · have e := d36 hC
        subst e
        clear d36
        clear hdep hfree hsz hops fr oq0 oq1 oq2 oq3 oq4 oq5 oq6 oq7 oq8 oq9 oq10 oq11 oq12 oq13 oq14 oq15 oq16 oq17 oq18 oq19 oq20 oq21 oq22 oq23 oq24 oq25 oq26 oq27 oq28 oq29 oq30
        refine zaw fun K hK => ?_
        go_simp
        exact hK (.bool true) _ (Below.refl _ _) rfl
    | 11, hi =>
      obtain rfl := Option.some.inj (oq11.symm.trans hi)
      have e37 : T[37]? = some (.bool true) := zan (by omega) (hdep 10 _ 37 (odt (by kernel_rfl)) oq10 rfl)
      refine zaj rfl ?_
      clear hdep hfree hsz hops fr oq0 oq1 oq2 oq3 oq4 oq5 oq6 oq7 oq8 oq9 oq10 oq11 oq12 oq13 oq14 oq15 oq16 oq17 oq18 oq19 oq20 oq21 oq22 oq23 oq24 oq25 oq26 oq27 oq28 oq29 oq30
      refine zaw fun K hK => ?_
      go_simp
      exact hK (.bool true) _ (Below.refl _ _) (rfl)
    | 12, hi =>
      obtain rfl := Option.some.inj (oq12.symm.trans hi)
      have e3 : T[3]? = some (v7) := hfree 3 (fr 3 (by kernel_rfl))
      refine zbk (T := T) (j := 11) rfl oq11 rfl (hdep 11 _ 38 (odt (by kernel_rfl)) oq11 rfl) (by omega) (fun hC e38 => ?_) (fun hC h => by first | exact absurd hC (by decide) | (rw [hC] at h; cases h))
      clear hdep hfree hsz hops fr oq0 oq1 oq2 oq3 oq4 oq5 oq6 oq7 oq8 oq9 oq10 oq11 oq12 oq13 oq14 oq15 oq16 oq17 oq18 oq19 oq20 oq21 oq22 oq23 oq24 oq25 oq26 oq27 oq28 oq29 oq30
      refine zaw fun K hK => ?_
      go_simp
      exact hK v7 _ (Below.refl _ _) (fun _ => IsV.stb.next VS.out hbw)
    | 13, hi =>
      obtain rfl := Option.some.inj (oq13.symm.trans hi)
      refine zbk (T := T) (j := 11) rfl oq11 rfl (hdep 11 _ 38 (odt (by kernel_rfl)) oq11 rfl) (by omega) (fun hC e38 => ?_) (fun hC h => by first | exact absurd hC (by decide) | (rw [hC] at h; cases h))
      clear hdep hfree hsz hops fr oq0 oq1 oq2 oq3 oq4 oq5 oq6 oq7 oq8 oq9 oq10 oq11 oq12 oq13 oq14 oq15 oq16 oq17 oq18 oq19 oq20 oq21 oq22 oq23 oq24 oq25 oq26 oq27 oq28 oq29 oq30
      refine zaw fun K hK => ?_
      go_simp
      exact hK (.slice (some ⟨W.heap.size, 0, none⟩) 2 2) _ (zbt _ _) (fun _ => ⟨_, rfl, heap_alloc_new _ _⟩)
    | 14, hi =>
      obtain rfl := Option.some.inj (oq14.symm.trans hi)
      refine zbk (T := T) (j := 11) rfl oq11 rfl (hdep 11 _ 38 (odt (by kernel_rfl)) oq11 rfl) (by omega) (fun hC e38 => ?_) (fun hC h => by first | exact absurd hC (by decide) | (rw [hC] at h; cases h))
      have d40 : ∃ g, (T.getD 40 undef) = .slice (some ⟨g, 0, none⟩) 2 2 ∧ Row W g 3 [.int .i64 (-8), .int .i64 9] := hdep 13 _ 40 (odt (by kernel_rfl)) oq13 rfl hC
      obtain ⟨v40, e40, g40⟩ := zci (T := T) (t := 40) (by omega)
      rw [g40] at d40
      clear g40
      clear hdep hfree hsz hops fr oq0 oq1 oq2 oq3 oq4 oq5 oq6 oq7 oq8 oq9 oq10 oq11 oq12 oq13 oq14 oq15 oq16 oq17 oq18 oq19 oq20 oq21 oq22 oq23 oq24 oq25 oq26 oq27 oq28 oq29 oq30
      obtain ⟨g40, rfl, r40⟩ := d40
      refine zaw fun K hK => ?_
      go_simp
      refine (halves3_l (l := [-8, 9]) r40 (by decide) (by decide)).mono ?_
      rintro e w' ⟨⟨v, rfl, hv⟩, hb⟩
      exact hK v w' hb (fun _ => IsV.stb.old hv)
    | 15, hi =>
      obtain rfl := Option.some.inj (oq15.symm.trans hi)
      refine zbk (T := T) (j := 11) rfl oq11 rfl (hdep 11 _ 38 (odt (by kernel_rfl)) oq11 rfl) (by omega) (fun hC e38 => ?_) (fun hC h => by first | exact absurd hC (by decide) | (rw [hC] at h; cases h))
      have d39 : IsV W (Old W) (T.getD 39 undef) (rawV (zbz 2 [-8, 9])) := hdep 12 _ 39 (odt (by kernel_rfl)) oq12 rfl hC
      obtain ⟨v39, e39, g39⟩ := zci (T := T) (t := 39) (by omega)
      rw [g39] at d39
      clear g39
      have d41 : IsV W (Old W) (T.getD 41 undef) (rawV (zbz 2 [-8, 9])) := hdep 14 _ 41 (odt (by kernel_rfl)) oq14 rfl hC
      obtain ⟨v41, e41, g41⟩ := zci (T := T) (t := 41) (by omega)
      rw [g41] at d41
      clear g41
      clear hdep hfree hsz hops fr oq0 oq1 oq2 oq3 oq4 oq5 oq6 oq7 oq8 oq9 oq10 oq11 oq12 oq13 oq14 oq15 oq16 oq17 oq18 oq19 oq20 oq21 oq22 oq23 oq24 oq25 oq26 oq27 oq28 oq29 oq30
      refine zaw fun K hK => ?_
      go_simp
      refine (same_v d39 d41).mono ?_
      rw [decide_eq_true rfl]
      rintro e w' ⟨rfl, hb⟩
      exact hK _ w' hb (fun _ => rfl)
    | 16, hi =>
      obtain rfl := Option.some.inj (oq16.symm.trans hi)
      have e38 : T[38]? = some (.bool true) := zan (by omega) (hdep 11 _ 38 (odt (by kernel_rfl)) oq11 rfl)
      have d42 : true = true → (T.getD 42 undef) = .bool true := hdep 15 _ 42 (odt (by kernel_rfl)) oq15 rfl
      refine zaj rfl ?_
      obtain ⟨v42, e42, g42⟩ := zci (T := T) (t := 42) (by omega)
      rw [g42] at d42
      clear g42
      have hC : true = true := rfl
      · have e := d42 hC
        subst e
        clear d42
        clear hdep hfree hsz hops fr oq0 oq1 oq2 oq3 oq4 oq5 oq6 oq7 oq8 oq9 oq10 oq11 oq12 oq13 oq14 oq15 oq16 oq17 oq18 oq19 oq20 oq21 oq22 oq23 oq24 oq25 oq26 oq27 oq28 oq29 oq30
        refine zaw fun K hK => ?_
        go_simp
        exact hK (.bool true) _ (Below.refl _ _) rfl
    | 17, hi =>
      obtain rfl := Option.some.inj (oq17.symm.trans hi)
      have e43 : T[43]? = some (.bool true) := zan (by omega) (hdep 16 _ 43 (odt (by kernel_rfl)) oq16 rfl)
      refine zaj rfl ?_
      clear hdep hfree hsz hops fr oq0 oq1 oq2 oq3 oq4 oq5 oq6 oq7 oq8 oq9 oq10 oq11 oq12 oq13 oq14 oq15 oq16 oq17 oq18 oq19 oq20 oq21 oq22 oq23 oq24 oq25 oq26 oq27 oq28 oq29 oq30
      refine zaw fun K hK => ?_
      go_simp
      exact hK (.bool true) _ (Below.refl _ _) (rfl)
    | 18, hi =>
      obtain rfl := Option.some.inj (oq18.symm.trans hi)
      have e6 : T[6]? = some (.int .i64 0) := hfree 6 (fr 6 (by kernel_rfl))
      refine zbk (T := T) (j := 17) rfl oq17 rfl (hdep 17 _ 44 (odt (by kernel_rfl)) oq17 rfl) (by omega) (fun hC e44 => ?_) (fun hC h => by first | exact absurd hC (by decide) | (rw [hC] at h; cases h))
      clear hdep hfree hsz hops fr oq0 oq1 oq2 oq3 oq4 oq5 oq6 oq7 oq8 oq9 oq10 oq11 oq12 oq13 oq14 oq15 oq16 oq17 oq18 oq19 oq20 oq21 oq22 oq23 oq24 oq25 oq26 oq27 oq28 oq29 oq30
      refine zaw fun K hK => ?_
      go_simp
      exact hK (.int .i64 0) _ (Below.refl _ _) (fun _ => rfl)
    | 19, hi =>
      obtain rfl := Option.some.inj (oq19.symm.trans hi)
      refine zbk (T := T) (j := 17) rfl oq17 rfl (hdep 17 _ 44 (odt (by kernel_rfl)) oq17 rfl) (by omega) (fun hC e44 => ?_) (fun hC h => by first | exact absurd hC (by decide) | (rw [hC] at h; cases h))
      have e45 : T[45]? = some (.int .i64 0) := zan (by omega) (hdep 18 _ 45 (odt (by kernel_rfl)) oq18 rfl hC)
      clear hdep hfree hsz hops fr oq0 oq1 oq2 oq3 oq4 oq5 oq6 oq7 oq8 oq9 oq10 oq11 oq12 oq13 oq14 oq15 oq16 oq17 oq18 oq19 oq20 oq21 oq22 oq23 oq24 oq25 oq26 oq27 oq28 oq29 oq30
      refine zaw fun K hK => ?_
      go_simp
      exact hK (.bool true) _ (Below.refl _ _) (fun _ => rfl)
    | 20, hi =>
      obtain rfl := Option.some.inj (oq20.symm.trans hi)
      have e44 : T[44]? = some (.bool true) := zan (by omega) (hdep 17 _ 44 (odt (by kernel_rfl)) oq17 rfl)
      have d46 : true = true → (T.getD 46 undef) = .bool true := hdep 19 _ 46 (odt (by kernel_rfl)) oq19 rfl
      refine zaj rfl ?_
      obtain ⟨v46, e46, g46⟩ := zci (T := T) (t := 46) (by omega)
      rw [g46] at d46
      clear g46
      have hC : true = true := rfl
      · have e := d46 hC
        subst e
        clear d46
        clear hdep hfree hsz hops fr oq0 oq1 oq2 oq3 oq4 oq5 oq6 oq7 oq8 oq9 oq10 oq11 oq12 oq13 oq14 oq15 oq16 oq17 oq18 oq19 oq20 oq21 oq22 oq23 oq24 oq25 oq26 oq27 oq28 oq29 oq30
        refine zaw fun K hK => ?_
        go_simp
        exact hK (.bool true) _ (Below.refl _ _) rfl
    | 21, hi =>
      obtain rfl := Option.some.inj (oq21.symm.trans hi)
      have e47 : T[47]? = some (.bool true) := zan (by omega) (hdep 20 _ 47 (odt (by kernel_rfl)) oq20 rfl)
      refine zaj rfl ?_
      clear hdep hfree hsz hops fr oq0 oq1 oq2 oq3 oq4 oq5 oq6 oq7 oq8 oq9 oq10 oq11 oq12 oq13 oq14 oq15 oq16 oq17 oq18 oq19 oq20 oq21 oq22 oq23 oq24 oq25 oq26 oq27 oq28 oq29 oq30
      refine zaw fun K hK => ?_
      go_simp
      exact hK (.bool true) _ (Below.refl _ _) (rfl)
    | 22, hi =>
      obtain rfl := Option.some.inj (oq22.symm.trans hi)
      have e5 : T[5]? = some (v9) := hfree 5 (fr 5 (by kernel_rfl))
      refine zbk (T := T) (j := 21) rfl oq21 rfl (hdep 21 _ 48 (odt (by kernel_rfl)) oq21 rfl) (by omega) (fun hC e48 => ?_) (fun hC h => by first | exact absurd hC (by decide) | (rw [hC] at h; cases h))
      clear hdep hfree hsz hops fr oq0 oq1 oq2 oq3 oq4 oq5 oq6 oq7 oq8 oq9 oq10 oq11 oq12 oq13 oq14 oq15 oq16 oq17 oq18 oq19 oq20 oq21 oq22 oq23 oq24 oq25 oq26 oq27 oq28 oq29 oq30
      refine zaw fun K hK => ?_
      go_simp
      exact hK v9 _ (Below.refl _ _) (fun _ => IsM.stb.next MI.out hbw)
    | 23, hi =>
      obtain rfl := Option.some.inj (oq23.symm.trans hi)
      refine zbk (T := T) (j := 21) rfl oq21 rfl (hdep 21 _ 48 (odt (by kernel_rfl)) oq21 rfl) (by omega) (fun hC e48 => ?_) (fun hC h => by first | exact absurd hC (by decide) | (rw [hC] at h; cases h))
      clear hdep hfree hsz hops fr oq0 oq1 oq2 oq3 oq4 oq5 oq6 oq7 oq8 oq9 oq10 oq11 oq12 oq13 oq14 oq15 oq16 oq17 oq18 oq19 oq20 oq21 oq22 oq23 oq24 oq25 oq26 oq27 oq28 oq29 oq30
      refine zaw fun K hK => ?_
      go_simp
      exact hK (.slice (some ⟨W.heap.size, 0, none⟩) 2 2) _ (zbt _ _) (fun _ => ⟨_, rfl, heap_alloc_new _ _⟩)
    | 24, hi =>
      obtain rfl := Option.some.inj (oq24.symm.trans hi)
      refine zbk (T := T) (j := 21) rfl oq21 rfl (hdep 21 _ 48 (odt (by kernel_rfl)) oq21 rfl) (by omega) (fun hC e48 => ?_) (fun hC h => by first | exact absurd hC (by decide) | (rw [hC] at h; cases h))
      have d50 : ∃ g, (T.getD 50 undef) = .slice (some ⟨g, 0, none⟩) 2 2 ∧ Row W g 3 [.int .i64 (-2), .int .i64 1] := hdep 23 _ 50 (odt (by kernel_rfl)) oq23 rfl hC
      obtain ⟨v50, e50, g50⟩ := zci (T := T) (t := 50) (by omega)
      rw [g50] at d50
      clear g50
      clear hdep hfree hsz hops fr oq0 oq1 oq2 oq3 oq4 oq5 oq6 oq7 oq8 oq9 oq10 oq11 oq12 oq13 oq14 oq15 oq16 oq17 oq18 oq19 oq20 oq21 oq22 oq23 oq24 oq25 oq26 oq27 oq28 oq29 oq30
      obtain ⟨g50, rfl, r50⟩ := d50
      refine zaw fun K hK => ?_
      go_simp
      refine (whole3_l (l := [-2, 1]) r50 (by decide) (by decide)).mono ?_
      rintro e w' ⟨⟨v, rfl, hv⟩, hb⟩
      exact hK v w' hb (fun _ => IsV.stb.old hv)
    | 25, hi =>
      obtain rfl := Option.some.inj (oq25.symm.trans hi)
      refine zbk (T := T) (j := 21) rfl oq21 rfl (hdep 21 _ 48 (odt (by kernel_rfl)) oq21 rfl) (by omega) (fun hC e48 => ?_) (fun hC h => by first | exact absurd hC (by decide) | (rw [hC] at h; cases h))
      clear hdep hfree hsz hops fr oq0 oq1 oq2 oq3 oq4 oq5 oq6 oq7 oq8 oq9 oq10 oq11 oq12 oq13 oq14 oq15 oq16 oq17 oq18 oq19 oq20 oq21 oq22 oq23 oq24 oq25 oq26 oq27 oq28 oq29 oq30
      refine zaw fun K hK => ?_
      go_simp
      exact hK (.slice (some ⟨W.heap.size, 0, none⟩) 2 2) _ (zbt _ _) (fun _ => ⟨_, rfl, heap_alloc_new _ _⟩)
    | 26, hi =>
      obtain rfl := Option.some.inj (oq26.symm.trans hi)
      refine zbk (T := T) (j := 21) rfl oq21 rfl (hdep 21 _ 48 (odt (by kernel_rfl)) oq21 rfl) (by omega) (fun hC e48 => ?_) (fun hC h => by first | exact absurd hC (by decide) | (rw [hC] at h; cases h))
      have d52 : ∃ g, (T.getD 52 undef) = .slice (some ⟨g, 0, none⟩) 2 2 ∧ Row W g 3 [.int .i64 3, .int .i64 (-1)] := hdep 25 _ 52 (odt (by kernel_rfl)) oq25 rfl hC
      obtain ⟨v52, e52, g52⟩ := zci (T := T) (t := 52) (by omega)
      rw [g52] at d52
      clear g52
      clear hdep hfree hsz hops fr oq0 oq1 oq2 oq3 oq4 oq5 oq6 oq7 oq8 oq9 oq10 oq11 oq12 oq13 oq14 oq15 oq16 oq17 oq18 oq19 oq20 oq21 oq22 oq23 oq24 oq25 oq26 oq27 oq28 oq29 oq30
      obtain ⟨g52, rfl, r52⟩ := d52
      refine zaw fun K hK => ?_
      go_simp
      refine (halves3_l (l := [3, -1]) r52 (by decide) (by decide)).mono ?_
      rintro e w' ⟨⟨v, rfl, hv⟩, hb⟩
      exact hK v w' hb (fun _ => IsV.stb.old hv)
    | 27, hi =>
      obtain rfl := Option.some.inj (oq27.symm.trans hi)
      refine zbk (T := T) (j := 21) rfl oq21 rfl (hdep 21 _ 48 (odt (by kernel_rfl)) oq21 rfl) (by omega) (fun hC e48 => ?_) (fun hC h => by first | exact absurd hC (by decide) | (rw [hC] at h; cases h))
      have d51 : IsV W (Old W) (T.getD 51 undef) (rawV (zbz 1 [-2, 1])) := hdep 24 _ 51 (odt (by kernel_rfl)) oq24 rfl hC
      obtain ⟨v51, e51, g51⟩ := zci (T := T) (t := 51) (by omega)
      rw [g51] at d51
      clear g51
      have d53 : IsV W (Old W) (T.getD 53 undef) (rawV (zbz 2 [3, -1])) := hdep 26 _ 53 (odt (by kernel_rfl)) oq26 rfl hC
      obtain ⟨v53, e53, g53⟩ := zci (T := T) (t := 53) (by omega)
      rw [g53] at d53
      clear g53
      clear hdep hfree hsz hops fr oq0 oq1 oq2 oq3 oq4 oq5 oq6 oq7 oq8 oq9 oq10 oq11 oq12 oq13 oq14 oq15 oq16 oq17 oq18 oq19 oq20 oq21 oq22 oq23 oq24 oq25 oq26 oq27 oq28 oq29 oq30
      have D51 := Lib.hid d51
      have D53 := Lib.hid d53
      obtain ⟨A1, a1, rfl, _⟩ := zcm d51
      obtain ⟨A2, a2, rfl, _⟩ := zcm d53
      clear d51 d53
      refine zaw fun K hK => ?_
      go_simp
      exact hK (.slice (some ⟨W.heap.size, 0, none⟩) 2 2) _ (zbt _ _) (fun _ => isM_row2 (heap_alloc_new W _) (IsV.stb.next D51.out (zbt _ _)) (IsV.stb.next D53.out (zbt _ _)))
    | 28, hi =>
      obtain rfl := Option.some.inj (oq28.symm.trans hi)
      refine zbk (T := T) (j := 21) rfl oq21 rfl (hdep 21 _ 48 (odt (by kernel_rfl)) oq21 rfl) (by omega) (fun hC e48 => ?_) (fun hC h => by first | exact absurd hC (by decide) | (rw [hC] at h; cases h))
      have d49 : IsM W (Old W) (T.getD 49 undef) (rawM [zbz 1 [-2, 1], zbz 2 [3, -1]]) := hdep 22 _ 49 (odt (by kernel_rfl)) oq22 rfl hC
      obtain ⟨v49, e49, g49⟩ := zci (T := T) (t := 49) (by omega)
      rw [g49] at d49
      clear g49
      have d54 : IsM W (Old W) (T.getD 54 undef) (rawM [zbz 1 [-2, 1], zbz 2 [3, -1]]) := hdep 27 _ 54 (odt (by kernel_rfl)) oq27 rfl hC
      obtain ⟨v54, e54, g54⟩ := zci (T := T) (t := 54) (by omega)
      rw [g54] at d54
      clear g54
      clear hdep hfree hsz hops fr oq0 oq1 oq2 oq3 oq4 oq5 oq6 oq7 oq8 oq9 oq10 oq11 oq12 oq13 oq14 oq15 oq16 oq17 oq18 oq19 oq20 oq21 oq22 oq23 oq24 oq25 oq26 oq27 oq28 oq29 oq30
      refine zaw fun K hK => ?_
      go_simp
      refine (same_m d49 d54).mono ?_
      rw [decide_eq_true rfl]
      rintro e w' ⟨rfl, hb⟩
      exact hK _ w' hb (fun _ => rfl)
    | 29, hi =>
      obtain rfl := Option.some.inj (oq29.symm.trans hi)
      have e48 : T[48]? = some (.bool true) := zan (by omega) (hdep 21 _ 48 (odt (by kernel_rfl)) oq21 rfl)
      have d55 : true = true → (T.getD 55 undef) = .bool true := hdep 28 _ 55 (odt (by kernel_rfl)) oq28 rfl
      refine zaj rfl ?_
      obtain ⟨v55, e55, g55⟩ := zci (T := T) (t := 55) (by omega)
      rw [g55] at d55
      clear g55
      have hC : true = true := rfl
      · have e := d55 hC
        subst e
        clear d55
        clear hdep hfree hsz hops fr oq0 oq1 oq2 oq3 oq4 oq5 oq6 oq7 oq8 oq9 oq10 oq11 oq12 oq13 oq14 oq15 oq16 oq17 oq18 oq19 oq20 oq21 oq22 oq23 oq24 oq25 oq26 oq27 oq28 oq29 oq30
        refine zaw fun K hK => ?_
        go_simp
        exact hK (.bool true) _ (Below.refl _ _) rfl
    | 30, hi =>
      obtain rfl := Option.some.inj (oq30.symm.trans hi)
      have e56 : T[56]? = some (.bool true) := zan (by omega) (hdep 29 _ 56 (odt (by kernel_rfl)) oq29 rfl)
      refine zaj rfl ?_
      clear hdep hfree hsz hops fr oq0 oq1 oq2 oq3 oq4 oq5 oq6 oq7 oq8 oq9 oq10 oq11 oq12 oq13 oq14 oq15 oq16 oq17 oq18 oq19 oq20 oq21 oq22 oq23 oq24 oq25 oq26 oq27 oq28 oq29 oq30
      refine zaw fun K hK => ?_
      go_simp
      exact hK (.bool true) _ (Below.refl _ _) (rfl)
    | _ + 31, hi => rw [hops] at hi; cases hi
  case fin =>
    intro a W hsz hdf hbw hfree hall
    obtain ⟨⟨l⟩, df⟩ := a
    replace hsz : l.length = 57 := hsz
    obtain ⟨fs, rfl⟩ := open57 hsz
    obtain rfl : df = [] := hdf
    have bs0 : fs 0 = .bool true := hall 30 _ 0 oq30 rfl
    clear hops fr oq0 oq1 oq2 oq3 oq4 oq5 oq6 oq7 oq8 oq9 oq10 oq11 oq12 oq13 oq14 oq15 oq16 oq17 oq18 oq19 oq20 oq21 oq22 oq23 oq24 oq25 oq26 oq27 oq28 oq29 oq30
    clear hall hfree hsz
    rw [bs0]
    clear bs0
    go_wp2_with fail
    go_ret
    exact ⟨rfl, zaa BB.out hbw⟩
end Go.Proofs.YtjkgdggkgljdoaaDoor
