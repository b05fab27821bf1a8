/-
  The walk of the law DualAccepts.
-/
import Derived.Test.YtblpaocignlpkaaGreatDoorCore17
import Derived.Test.YtblpaocignlpkaaGreatDoorProofDualAccepts04
import Derived.Test.YtblpaocignlpkaaGreatDoorProofDualAccepts11
namespace Go.Proofs.YtblpaocignlpkaaGreatDoor
open Go.RowKit
set_option linter.unusedVariables false
theorem isV_one {w : World} {g : Nat} {t : TypeId} {r : Raw} {A B : Option Addr} {a b : Nat} (hr : Row w g t [.bool r.neg, .slice A r.num.length a, .slice B r.den.length b]) (h : IsR w (Old w) (.agg #[.bool r.neg, .slice A r.num.length a, .slice B r.den.length b]) r) : IsV w (Old w) (.slice (some ⟨g, 0, none⟩) 1 1) [r] := by
  refine ⟨some ⟨g, 0, none⟩, 1, [.agg #[.bool r.neg, .slice A r.num.length a, .slice B r.den.length b]], rfl, Nat.le_refl _, by unfold maxLen; omega, fun _ => ⟨g, 0, rfl, hr.lt, fun j v hv => ?_⟩, ?_, All2.nil.snoc h⟩
  · rw [cellsOf_one] at hv
    rw [Nat.zero_add, hr.cell j]
    exact hv
  · exact Wid.nil.snoc rfl
def IsPa (w : World) (S : Nat → Prop) (v : Value) (p : Prog) : Prop := ∃ a b c, v = .agg #[a, b, c] ∧ IsP w S (.agg #[a, b, c]) p
theorem IsPa.stb : Stb IsPa := by
  rintro w w' S T v p ⟨a, b, c, e, h⟩ hs
  exact ⟨a, b, c, e, IsP.stb.to h hs⟩
theorem open109 {l : List Value} (h : l.length = 109) : ∃ fs : Nat → Value, l = [fs 0, fs 1, fs 2, fs 3, fs 4, fs 5, fs 6, fs 7, fs 8, fs 9, fs 10, fs 11, fs 12, fs 13, fs 14, fs 15, fs 16, fs 17, fs 18, fs 19, fs 20, fs 21, fs 22, fs 23, fs 24, fs 25, fs 26, fs 27, fs 28, fs 29, fs 30, fs 31, fs 32, fs 33, fs 34, fs 35, fs 36, fs 37, fs 38, fs 39, fs 40, fs 41, fs 42, fs 43, fs 44, fs 45, fs 46, fs 47, fs 48, fs 49, fs 50, fs 51, fs 52, fs 53, fs 54, fs 55, fs 56, fs 57, fs 58, fs 59, fs 60, fs 61, fs 62, fs 63, fs 64, fs 65, fs 66, fs 67, fs 68, fs 69, fs 70, fs 71, fs 72, fs 73, fs 74, fs 75, fs 76, fs 77, fs 78, fs 79, fs 80, fs 81, fs 82, fs 83, fs 84, fs 85, fs 86, fs 87, fs 88, fs 89, fs 90, fs 91, fs 92, fs 93, fs 94, fs 95, fs 96, fs 97, fs 98, fs 99, fs 100, fs 101, fs 102, fs 103, fs 104, fs 105, fs 106, fs 107, fs 108] := by
  refine ⟨fun i => l.getD i undef, ?_⟩
  have e : l = (List.range 109).map (fun i => l.getD i undef) := by
    apply List.ext_getElem
    · simp [h]
    · intro i h1 h2
      simp [List.getD_eq_getElem?_getD, List.getElem?_eq_getElem h1]
  exact e.trans rfl
def AcBox (w00 : World) (p : Prog) (A : Option Addr) (cA : Nat) (B : Option Addr) (cB : Nat) (C : Option Addr) (cC : Nat) (n0 : Nat) (i : Nat) (v : Value) (w : World) (x : Option Value) : Prop :=
  match i with
  | 0 => v = .pointer (some ⟨w00.heap.size, 0, none⟩)
  | 1 => v = .slice A p.A.length cA
  | 2 => IsM w (NX n0 w x) v p.A
  | 3 => v = .pointer (some ⟨w00.heap.size, 1, none⟩)
  | 4 => v = .slice B p.B.length cB
  | 5 => IsV w (NX n0 w x) v p.B
  | 6 => v = .pointer (some ⟨w00.heap.size, 2, none⟩)
  | 7 => v = .slice C p.C.length cC
  | 8 => IsV w (NX n0 w x) v p.C
  | 9 => IsPa w (NX n0 w x) v p
  | 10 => boxR 27 v w x
  | 11 => ∃ g a b c, x = some (ptrV g) ∧ Row w g 27 [a, b, c] ∧ IsP w (NX n0 w (x)) (.agg #[a, b, c]) (p)
  | _ => True
theorem acBox_st (w00 : World) (p : Prog) (A : Option Addr) (cA : Nat) (B : Option Addr) (cB : Nat) (C : Option Addr) (cC : Nat) (n0 : Nat) : ∀ (i m : Nat) (v : Value) (w w' : World) (x : Option Value), i ≠ m → AcBox w00 p A cA B cB C cC n0 i v w x → boxE 11 m w w' x → AcBox w00 p A cA B cB C cC n0 i v w' x := by
  intro i m v w w' x him h hE
  unfold boxE at hE
  split at hE
  · rename_i hm
    subst hm
    obtain ⟨g, a, b, c, rfl, rfl⟩ := hE
    match i, him, h with
    | 0, _, h => exact h
    | 1, _, h => exact h
    | 2, _, h => exact nx_put IsM.stb h
    | 3, _, h => exact h
    | 4, _, h => exact h
    | 5, _, h => exact nx_put IsV.stb h
    | 6, _, h => exact h
    | 7, _, h => exact h
    | 8, _, h => exact nx_put IsV.stb h
    | 9, _, h => exact nx_put IsPa.stb h
    | 10, _, h => exact boxR_put h
    | 11, him, _ => exact absurd rfl him
    | _ + 12, _, _ => trivial
  · match i, h with
    | 0, h => exact h
    | 1, h => exact h
    | 2, h => exact nx_below IsM.stb h hE
    | 3, h => exact h
    | 4, h => exact h
    | 5, h => exact nx_below IsV.stb h hE
    | 6, h => exact h
    | 7, h => exact h
    | 8, h => exact nx_below IsV.stb h hE
    | 9, h => exact nx_below IsPa.stb h hE
    | 10, h => exact boxR_below h hE
    | 11, h => obtain ⟨g, a, b, c, e, r, q⟩ := h; exact ⟨g, a, b, c, e, r.next hE, nx_below IsP.stb q hE⟩
    | _ + 12, _ => trivial
theorem acBox_sk (w00 : World) (p : Prog) (A : Option Addr) (cA : Nat) (B : Option Addr) (cB : Nat) (C : Option Addr) (cC : Nat) (n0 : Nat) : ∀ (i : Nat) (v : Value) (w w' : World) (u : Value), i ≠ 10 → AcBox w00 p A cA B cB C cC n0 i v w none → boxE 11 10 w w' none → boxU w u w' → AcBox w00 p A cA B cB C cC n0 i v w' (some u) := by
  intro i v w w' u hik h hE hU
  unfold boxE at hE
  rw [if_neg (by omega)] at hE
  obtain rfl : u = ptrV w.heap.size := hU
  match i, hik, h with
  | 0, _, h => exact h
  | 1, _, h => exact h
  | 2, _, h => exact nx_new IsM.stb h hE
  | 3, _, h => exact h
  | 4, _, h => exact h
  | 5, _, h => exact nx_new IsV.stb h hE
  | 6, _, h => exact h
  | 7, _, h => exact h
  | 8, _, h => exact nx_new IsV.stb h hE
  | 9, _, h => exact nx_new IsPa.stb h hE
  | 10, hik, _ => exact absurd rfl hik
  | 11, _, h => obtain ⟨g, a, b, c, e, _⟩ := h; cases e
  | _ + 12, _, _ => trivial
def AcGrow (w00 : World) (s : Sol) (X : Option Addr) (cX : Nat) (D : Option Addr) (cD : Nat) (R : Option Addr) (cR : Nat) (n0 : Nat) (i : Nat) (v : Value) (w : World) : Prop :=
  match i with
  | 0 => v = .pointer (some ⟨(w00.heap.size + 1), 4, none⟩)
  | 1 => v = .slice X s.X.length cX
  | 2 => IsV w (New n0 w) v s.X
  | 3 => v = .pointer (some ⟨(w00.heap.size + 1), 5, none⟩)
  | 4 => v = .slice D s.D.length cD
  | 5 => IsV w (New n0 w) v s.D
  | 6 => v = .pointer (some ⟨(w00.heap.size + 1), 6, none⟩)
  | 7 => v = .slice R s.R.length cR
  | 8 => IsV w (New n0 w) v s.R
  | 9 => IsV w (New n0 w) v s.X
  | 10 => IsV w (New n0 w) v s.D
  | 11 => IsV w (New n0 w) v s.R
  | _ => True
theorem acGrow_stb (w00 : World) (s : Sol) (X : Option Addr) (cX : Nat) (D : Option Addr) (cD : Nat) (R : Option Addr) (cR : Nat) (n0 : Nat) : ∀ (i : Nat) (v : Value) (w w' : World), AcGrow w00 s X cX D cD R cR n0 i v w → Below w.heap.size w w' → AcGrow w00 s X cX D cD R cR n0 i v w' := fun i v w w' h hb => match i, h with
  | 0, h => h
  | 1, h => h
  | 2, h => IsV.stb.fresh h hb
  | 3, h => h
  | 4, h => h
  | 5, h => IsV.stb.fresh h hb
  | 6, h => h
  | 7, h => h
  | 8, h => IsV.stb.fresh h hb
  | 9, h => IsV.stb.fresh h hb
  | 10, h => IsV.stb.fresh h hb
  | 11, h => IsV.stb.fresh h hb
  | _ + 12, _ => trivial
set_option maxRecDepth 100000 in
set_option maxHeartbeats 8000000 in
theorem law_dacc_of {w : World} {vp vs : Value} {p : Prog} {s : Sol} {b : Bool} {e0 : Int} (hp : IsP w (Old w) vp p) (hs : IsSol w (Old w) vs s) (hB : Bru w)
    (h1 : AccW 13 p s b e0) (h2 : AccW 14 p s b e0) :
    Calls Tryz.prog 3 #[vp, vs] w fun en w' => en = .returned (.bool true) ∧ Below w.heap.size w w' := by
  have HP := Lib.hid hp
  have HSo := Lib.hid hs
  have HB := Lib.hid hB
  have C1 := Lib.hid h1
  have C2 := Lib.hid h2
  obtain ⟨A, cA, B, cB, C, cC, rfl, hA, hBv, hC⟩ := hp
  obtain ⟨P, cP, Q, cQ, X, cX, D, cD, R, cR, rfl, hV, hX, hD, hR⟩ := hs
  have HMA := Lib.hid hA
  have HVB := Lib.hid hBv
  have HVC := Lib.hid hC
  have HVV := Lib.hid hV
  have HVX := Lib.hid hX
  have HVD := Lib.hid hD
  have HVR := Lib.hid hR
  clear hA hBv hC hV hX hD hR h1 h2 hB
  obtain ⟨w0, hw0, hb0, rP, rS, Hz⟩ := zcl w #[.slice A p.A.length cA, .slice B p.B.length cB, .slice C p.C.length cC] #[.int .i64 s.st, .bool s.val.neg, .slice P s.val.num.length cP, .slice Q s.val.den.length cQ, .slice X s.X.length cX, .slice D s.D.length cD, .slice R s.R.length cR] 27 33
  have B0 := Lib.hid hb0
  have RP := Lib.hid rP
  have RS := Lib.hid rS
  obtain ⟨p0, p1, p2⟩ := zad rP
  obtain ⟨s0, s1, s2, s3, s4, s5, s6⟩ := zba rS
  clear hb0 rP rS
  go_enter Tryz.func3, Tryz.ntmps3
  go_wp2_with fail
  clear hw0
  refine (large_s (IsP.stb.to HP.out (zag B0.out))).mono ?_
  rintro e xSh ⟨⟨bSh, rfl, hs⟩, hb⟩
  have Sh' := Lib.hid hs
  clear hs
  replace B0 := Lib.hid (zaa B0.out hb)
  replace RP := Lib.hid (RP.out.next hb)
  replace RS := Lib.hid (RS.out.next hb)
  clear hb p0 p1 p2 s0 s1 s2 s3 s4 s5 s6
  obtain ⟨p0, p1, p2⟩ := zad RP.out
  obtain ⟨s0, s1, s2, s3, s4, s5, s6⟩ := zba RS.out
  cases bSh
  case true =>
    go_wp2_with fail
    refine (awake5_l (Bru.next HB.out B0.out)).mono ?_
    rintro e wz ⟨rfl, hb⟩
    go_wp2_with fail
    go_ret
    exact ⟨rfl, zaa B0.out hb⟩
  have Sh := Lib.hid (Sh'.out (by trivial))
  clear Sh'
  go_wp2_with fail
  refine (long_s (m := 6) (IsV.stb.to HVX.out (zag B0.out))).mono ?_
  rintro e xShX ⟨⟨bShX, rfl, hs⟩, hb⟩
  have ShX' := Lib.hid hs
  clear hs
  replace B0 := Lib.hid (zaa B0.out hb)
  replace RP := Lib.hid (RP.out.next hb)
  replace RS := Lib.hid (RS.out.next hb)
  clear hb p0 p1 p2 s0 s1 s2 s3 s4 s5 s6
  obtain ⟨p0, p1, p2⟩ := zad RP.out
  obtain ⟨s0, s1, s2, s3, s4, s5, s6⟩ := zba RS.out
  cases bShX
  case true =>
    go_wp2_with fail
    refine (awake5_l (Bru.next HB.out B0.out)).mono ?_
    rintro e wz ⟨rfl, hb⟩
    go_wp2_with fail
    go_ret
    exact ⟨rfl, zaa B0.out hb⟩
  have ShX := Lib.hid (ShX'.out (by trivial))
  clear ShX'
  go_wp2_with fail
  refine (long_s (m := 6) (IsV.stb.to HVD.out (zag B0.out))).mono ?_
  rintro e xShD ⟨⟨bShD, rfl, hs⟩, hb⟩
  have ShD' := Lib.hid hs
  clear hs
  replace B0 := Lib.hid (zaa B0.out hb)
  replace RP := Lib.hid (RP.out.next hb)
  replace RS := Lib.hid (RS.out.next hb)
  clear hb p0 p1 p2 s0 s1 s2 s3 s4 s5 s6
  obtain ⟨p0, p1, p2⟩ := zad RP.out
  obtain ⟨s0, s1, s2, s3, s4, s5, s6⟩ := zba RS.out
  cases bShD
  case true =>
    go_wp2_with fail
    refine (awake5_l (Bru.next HB.out B0.out)).mono ?_
    rintro e wz ⟨rfl, hb⟩
    go_wp2_with fail
    go_ret
    exact ⟨rfl, zaa B0.out hb⟩
  have ShD := Lib.hid (ShD'.out (by trivial))
  clear ShD'
  go_wp2_with fail
  refine (long_s (m := 6) (IsV.stb.to HVR.out (zag B0.out))).mono ?_
  rintro e xShR ⟨⟨bShR, rfl, hs⟩, hb⟩
  have ShR' := Lib.hid hs
  clear hs
  replace B0 := Lib.hid (zaa B0.out hb)
  replace RP := Lib.hid (RP.out.next hb)
  replace RS := Lib.hid (RS.out.next hb)
  clear hb p0 p1 p2 s0 s1 s2 s3 s4 s5 s6
  obtain ⟨p0, p1, p2⟩ := zad RP.out
  obtain ⟨s0, s1, s2, s3, s4, s5, s6⟩ := zba RS.out
  cases bShR
  case true =>
    go_wp2_with fail
    refine (awake5_l (Bru.next HB.out B0.out)).mono ?_
    rintro e wz ⟨rfl, hb⟩
    go_wp2_with fail
    go_ret
    exact ⟨rfl, zaa B0.out hb⟩
  have ShR := Lib.hid (ShR'.out (by trivial))
  clear ShR'
  go_wp2_with fail
  have hIV : IsV (xShR.alloc (.cells #[.bool s.val.neg, .slice P s.val.num.length cP, .slice Q s.val.den.length cQ] 31)) (Old (xShR.alloc (.cells #[.bool s.val.neg, .slice P s.val.num.length cP, .slice Q s.val.den.length cQ] 31))) (.slice (some ⟨xShR.heap.size, 0, none⟩) 1 1) [s.val] := by
    have hn := zas xShR (.cells #[.bool s.val.neg, .slice P s.val.num.length cP, .slice Q s.val.den.length cQ] 31)
    have hr := heap_alloc_new xShR (.cells #[.bool s.val.neg, .slice P s.val.num.length cP, .slice Q s.val.den.length cQ] 31)
    exact isV_one hr (IsR.stb.to HVV.out (zag (zaa B0.out hn)))
  have hbn := zas xShR (.cells #[.bool s.val.neg, .slice P s.val.num.length cP, .slice Q s.val.den.length cQ] 31)
  refine (long_s (m := 1) hIV).mono ?_
  rintro e w1 ⟨⟨bV, rfl, _⟩, hb'⟩
  have hb := zaa hbn hb'
  clear hb' hbn hIV
  replace B0 := Lib.hid (zaa B0.out hb)
  replace RP := Lib.hid (RP.out.next hb)
  replace RS := Lib.hid (RS.out.next hb)
  clear hb p0 p1 p2 s0 s1 s2 s3 s4 s5 s6
  obtain ⟨p0, p1, p2⟩ := zad RP.out
  obtain ⟨s0, s1, s2, s3, s4, s5, s6⟩ := zba RS.out
  cases bV
  case true =>
    go_wp2_with fail
    refine (awake5_l (Bru.next HB.out B0.out)).mono ?_
    rintro e wz ⟨rfl, hb⟩
    go_wp2_with fail
    go_ret
    exact ⟨rfl, zaa B0.out hb⟩
  go_wp2_with fail
  clear p0 p1 p2 s0 s1 s2 s3 s4 s5 s6
  have B1 := Lib.hid B0.out
  refine zey fun ops hops => ?_
  have oq0 := zaw (j := 0) hops rfl
  have oq1 := zaw (j := 1) hops rfl
  have oq2 := zaw (j := 2) hops rfl
  have oq3 := zaw (j := 3) hops rfl
  have oq4 := zaw (j := 4) hops rfl
  have oq5 := zaw (j := 5) hops rfl
  have oq6 := zaw (j := 6) hops rfl
  have oq7 := zaw (j := 7) hops rfl
  have oq8 := zaw (j := 8) hops rfl
  have oq9 := zaw (j := 9) hops rfl
  have oq10 := zaw (j := 10) hops rfl
  have oq11 := zaw (j := 11) hops rfl
  have fr := fun t h => slot_abs hops t h
  refine wp_region_rx 10 boxU (AcBox w p A cA B cB C cC w1.heap.size) (fun _ _ => True) (boxJ w1.heap.size w1) (boxE 11) (by kernel_rfl) ⟨zac _, Nat.le_refl _, fun g e => by cases e⟩ (fun _ => trivial) (fun _ _ _ _ _ _ _ _ _ => trivial) (fun i m v wa wb x a b c d e => acBox_st w p A cA B cB C cC w1.heap.size i m v wa wb x a c e) (fun i v wa wb u a b c d e => acBox_sk w p A cA B cB C cC w1.heap.size i v wa wb u a b d e) (by rw [hops]; kernel_rfl) ?step ?fin
  case step =>
    intro i o x hi hxk a W hsz hdf hJ _ hfree hdep
    obtain ⟨T, df⟩ := a
    replace hsz : T.size = 109 := hsz
    obtain rfl : df = [] := hdf
    match i, hi with
    | 0, hi =>
      obtain rfl := Option.some.inj (oq0.symm.trans hi)
      have e2 : T[2]? = some (.pointer (some ⟨w.heap.size, 0, none⟩)) := hfree 2 (fr 2 (by kernel_rfl))
      refine zao rfl ?_
      have hbw := hJ.1
      refine zej (Φ := AcBox w p A cA B cB C cC w1.heap.size) (n := 11) (k := 10) (i := 0) (by omega) (by omega) rfl hJ fun K hK => ?_
      have hJn := hJ.2.1
      have hJx := hJ.2.2
      clear hdep hfree hsz hJ hops fr oq0 oq1 oq2 oq3 oq4 oq5 oq6 oq7 oq8 oq9 oq10 oq11
      go_simp
      exact hK (.pointer (some ⟨w.heap.size, 0, none⟩)) _ (Below.refl _ _) rfl
    | 1, hi =>
      obtain rfl := Option.some.inj (oq1.symm.trans hi)
      have d37 : (T.getD 37 undef) = .pointer (some ⟨w.heap.size, 0, none⟩) := hdep 0 _ (odt (by kernel_rfl)) oq0
      have e37 := zal (by omega) d37
      clear d37
      refine zao rfl ?_
      have hbw := hJ.1
      obtain ⟨c0, c1, c2⟩ := zad (RP.out.next hbw)
      refine zej (Φ := AcBox w p A cA B cB C cC w1.heap.size) (n := 11) (k := 10) (i := 1) (by omega) (by omega) rfl hJ fun K hK => ?_
      have hJn := hJ.2.1
      have hJx := hJ.2.2
      clear hdep hfree hsz hJ hops fr oq0 oq1 oq2 oq3 oq4 oq5 oq6 oq7 oq8 oq9 oq10 oq11
      go_simp
      exact hK (.slice A p.A.length cA) _ (Below.refl _ _) rfl
    | 2, hi =>
      obtain rfl := Option.some.inj (oq2.symm.trans hi)
      have d38 : (T.getD 38 undef) = .slice A p.A.length cA := hdep 1 _ (odt (by kernel_rfl)) oq1
      have e38 := zal (by omega) d38
      clear d38
      refine zao rfl ?_
      have hbw := hJ.1
      refine zej (Φ := AcBox w p A cA B cB C cC w1.heap.size) (n := 11) (k := 10) (i := 2) (by omega) (by omega) rfl hJ fun K hK => ?_
      have hJn := hJ.2.1
      have hJx := hJ.2.2
      clear hdep hfree hsz hJ hops fr oq0 oq1 oq2 oq3 oq4 oq5 oq6 oq7 oq8 oq9 oq10 oq11
      go_simp
      refine (own_m (IsM.stb.to HMA.out (zag (zaa B1.out hbw))) Sh.out.2.1 (by have := Sh.out.1; omega)).mono ?_
      rintro e w' ⟨⟨v, rfl, hv⟩, hb⟩
      exact hK v w' hb (nx_of IsM.stb hv hJn hJx)
    | 3, hi =>
      obtain rfl := Option.some.inj (oq3.symm.trans hi)
      have e2 : T[2]? = some (.pointer (some ⟨w.heap.size, 0, none⟩)) := hfree 2 (fr 2 (by kernel_rfl))
      refine zao rfl ?_
      have hbw := hJ.1
      refine zej (Φ := AcBox w p A cA B cB C cC w1.heap.size) (n := 11) (k := 10) (i := 3) (by omega) (by omega) rfl hJ fun K hK => ?_
      have hJn := hJ.2.1
      have hJx := hJ.2.2
      clear hdep hfree hsz hJ hops fr oq0 oq1 oq2 oq3 oq4 oq5 oq6 oq7 oq8 oq9 oq10 oq11
      go_simp
      exact hK (.pointer (some ⟨w.heap.size, 1, none⟩)) _ (Below.refl _ _) rfl
    | 4, hi =>
      obtain rfl := Option.some.inj (oq4.symm.trans hi)
      have d40 : (T.getD 40 undef) = .pointer (some ⟨w.heap.size, 1, none⟩) := hdep 3 _ (odt (by kernel_rfl)) oq3
      have e40 := zal (by omega) d40
      clear d40
      refine zao rfl ?_
      have hbw := hJ.1
      obtain ⟨c0, c1, c2⟩ := zad (RP.out.next hbw)
      refine zej (Φ := AcBox w p A cA B cB C cC w1.heap.size) (n := 11) (k := 10) (i := 4) (by omega) (by omega) rfl hJ fun K hK => ?_
      have hJn := hJ.2.1
      have hJx := hJ.2.2
      clear hdep hfree hsz hJ hops fr oq0 oq1 oq2 oq3 oq4 oq5 oq6 oq7 oq8 oq9 oq10 oq11
      go_simp
      exact hK (.slice B p.B.length cB) _ (Below.refl _ _) rfl
    | 5, hi =>
      obtain rfl := Option.some.inj (oq5.symm.trans hi)
      have d41 : (T.getD 41 undef) = .slice B p.B.length cB := hdep 4 _ (odt (by kernel_rfl)) oq4
      have e41 := zal (by omega) d41
      clear d41
      refine zao rfl ?_
      have hbw := hJ.1
      refine zej (Φ := AcBox w p A cA B cB C cC w1.heap.size) (n := 11) (k := 10) (i := 5) (by omega) (by omega) rfl hJ fun K hK => ?_
      have hJn := hJ.2.1
      have hJx := hJ.2.2
      clear hdep hfree hsz hJ hops fr oq0 oq1 oq2 oq3 oq4 oq5 oq6 oq7 oq8 oq9 oq10 oq11
      go_simp
      refine (own_v (IsV.stb.to HVB.out (zag (zaa B1.out hbw))) Sh.out.2.2.1.2 (by have := Sh.out.2.2.1.1; omega)).mono ?_
      rintro e w' ⟨⟨v, rfl, hv⟩, hb⟩
      exact hK v w' hb (nx_of IsV.stb hv hJn hJx)
    | 6, hi =>
      obtain rfl := Option.some.inj (oq6.symm.trans hi)
      have e2 : T[2]? = some (.pointer (some ⟨w.heap.size, 0, none⟩)) := hfree 2 (fr 2 (by kernel_rfl))
      refine zao rfl ?_
      have hbw := hJ.1
      refine zej (Φ := AcBox w p A cA B cB C cC w1.heap.size) (n := 11) (k := 10) (i := 6) (by omega) (by omega) rfl hJ fun K hK => ?_
      have hJn := hJ.2.1
      have hJx := hJ.2.2
      clear hdep hfree hsz hJ hops fr oq0 oq1 oq2 oq3 oq4 oq5 oq6 oq7 oq8 oq9 oq10 oq11
      go_simp
      exact hK (.pointer (some ⟨w.heap.size, 2, none⟩)) _ (Below.refl _ _) rfl
    | 7, hi =>
      obtain rfl := Option.some.inj (oq7.symm.trans hi)
      have d43 : (T.getD 43 undef) = .pointer (some ⟨w.heap.size, 2, none⟩) := hdep 6 _ (odt (by kernel_rfl)) oq6
      have e43 := zal (by omega) d43
      clear d43
      refine zao rfl ?_
      have hbw := hJ.1
      obtain ⟨c0, c1, c2⟩ := zad (RP.out.next hbw)
      refine zej (Φ := AcBox w p A cA B cB C cC w1.heap.size) (n := 11) (k := 10) (i := 7) (by omega) (by omega) rfl hJ fun K hK => ?_
      have hJn := hJ.2.1
      have hJx := hJ.2.2
      clear hdep hfree hsz hJ hops fr oq0 oq1 oq2 oq3 oq4 oq5 oq6 oq7 oq8 oq9 oq10 oq11
      go_simp
      exact hK (.slice C p.C.length cC) _ (Below.refl _ _) rfl
    | 8, hi =>
      obtain rfl := Option.some.inj (oq8.symm.trans hi)
      have d44 : (T.getD 44 undef) = .slice C p.C.length cC := hdep 7 _ (odt (by kernel_rfl)) oq7
      have e44 := zal (by omega) d44
      clear d44
      refine zao rfl ?_
      have hbw := hJ.1
      refine zej (Φ := AcBox w p A cA B cB C cC w1.heap.size) (n := 11) (k := 10) (i := 8) (by omega) (by omega) rfl hJ fun K hK => ?_
      have hJn := hJ.2.1
      have hJx := hJ.2.2
      clear hdep hfree hsz hJ hops fr oq0 oq1 oq2 oq3 oq4 oq5 oq6 oq7 oq8 oq9 oq10 oq11
      go_simp
      refine (own_v (IsV.stb.to HVC.out (zag (zaa B1.out hbw))) Sh.out.2.2.2.2 (by have := Sh.out.2.2.2.1; omega)).mono ?_
      rintro e w' ⟨⟨v, rfl, hv⟩, hb⟩
      exact hK v w' hb (nx_of IsV.stb hv hJn hJx)
    | 9, hi =>
      obtain rfl := Option.some.inj (oq9.symm.trans hi)
      have d39 : IsM W (NX w1.heap.size W x) (T.getD 39 undef) p.A := hdep 2 _ (odt (by kernel_rfl)) oq2
      obtain ⟨v39, e39, g39⟩ := zbz (T := T) (t := 39) (by omega)
      rw [g39] at d39
      clear g39
      have d42 : IsV W (NX w1.heap.size W x) (T.getD 42 undef) p.B := hdep 5 _ (odt (by kernel_rfl)) oq5
      obtain ⟨v42, e42, g42⟩ := zbz (T := T) (t := 42) (by omega)
      rw [g42] at d42
      clear g42
      have d45 : IsV W (NX w1.heap.size W x) (T.getD 45 undef) p.C := hdep 8 _ (odt (by kernel_rfl)) oq8
      obtain ⟨v45, e45, g45⟩ := zbz (T := T) (t := 45) (by omega)
      rw [g45] at d45
      clear g45
      refine zao rfl ?_
      have hbw := hJ.1
      have D39 := Lib.hid d39
      have D42 := Lib.hid d42
      have D45 := Lib.hid d45
      obtain ⟨a39, k39, rfl, _⟩ := zdo d39
      obtain ⟨a42, k42, rfl, _⟩ := zau d42
      obtain ⟨a45, k45, rfl, _⟩ := zau d45
      clear d39 d42 d45
      refine zej (Φ := AcBox w p A cA B cB C cC w1.heap.size) (n := 11) (k := 10) (i := 9) (by omega) (by omega) rfl hJ fun K hK => ?_
      have hJn := hJ.2.1
      have hJx := hJ.2.2
      clear hdep hfree hsz hJ hops fr oq0 oq1 oq2 oq3 oq4 oq5 oq6 oq7 oq8 oq9 oq10 oq11
      go_simp
      exact hK (.agg #[.slice a39 p.A.length k39, .slice a42 p.B.length k42, .slice a45 p.C.length k45]) _ (Below.refl _ _) ⟨_, _, _, rfl, isP_mk D39.out D42.out D45.out⟩
    | 10, hi =>
      obtain rfl := Option.some.inj (oq10.symm.trans hi)
      refine zao rfl ?_
      have hbw := hJ.1
      obtain rfl := hxk rfl
      refine step_box_make (Φ := AcBox w p A cA B cB C cC w1.heap.size) (n := 11) (k := 10) (ob := .cells #[.slice none 0 0, .slice none 0 0, .slice none 0 0] 27) (by omega) rfl hJ rfl ⟨_, _, _, _, rfl, rfl, heap_alloc_new _ _⟩ fun K hK => ?_
      clear hdep hfree hsz hJ hops fr oq0 oq1 oq2 oq3 oq4 oq5 oq6 oq7 oq8 oq9 oq10 oq11
      go_simp
      exact hK
    | 11, hi =>
      obtain rfl := Option.some.inj (oq11.symm.trans hi)
      have d5 : boxR 27 (T.getD 5 undef) W x := hdep 10 _ (odt (by kernel_rfl)) oq10
      obtain ⟨v5, e5, g5⟩ := zbz (T := T) (t := 5) (by omega)
      rw [g5] at d5
      clear g5
      have d46 : IsPa W (NX w1.heap.size W x) (T.getD 46 undef) p := hdep 9 _ (odt (by kernel_rfl)) oq9
      obtain ⟨v46, e46, g46⟩ := zbz (T := T) (t := 46) (by omega)
      rw [g46] at d46
      clear g46
      refine zao rfl ?_
      have hbw := hJ.1
      obtain ⟨a1, a2, a3, rfl, d46⟩ := d46
      have D46 := Lib.hid d46
      obtain ⟨A7, k7, B7, l7, C7, m7, e7, _, _, _⟩ := d46
      cases e7
      have d46 := D46.out
      obtain ⟨g, c1, c2, c3, rfl, rfl, r⟩ := d5
      obtain ⟨z0, z1, z2⟩ := zad r
      obtain ⟨f0, f1, f2⟩ := zax r
      refine step_box_store (Φ := AcBox w p A cA B cB C cC w1.heap.size) (n := 11) (k := 10) (g := g) (by omega) rfl hJ rfl ⟨g, _, _, _, rfl, r.put3 _ _ _, nx_put IsP.stb d46⟩ fun K hK => ?_
      clear hdep hfree hsz hJ hops fr oq0 oq1 oq2 oq3 oq4 oq5 oq6 oq7 oq8 oq9 oq10 oq11
      go_simp
      exact hK
    | _ + 12, hi => rw [hops] at hi; cases hi
  case fin =>
    intro a W hsz hdf hJ hfree hall
    obtain ⟨⟨l⟩, df⟩ := a
    replace hsz : l.length = 109 := hsz
    obtain ⟨fs, rfl⟩ := open109 hsz
    obtain rfl : df = [] := hdf
    rw [oq10] at hall hJ
    have hbw := hJ.1
    have bs2 : fs 2 = .pointer (some ⟨w.heap.size, 0, none⟩) := Option.some.inj (hfree 2 (fr 2 (by kernel_rfl)))
    have bs3 : fs 3 = .pointer (some ⟨(w.heap.size + 1), 0, none⟩) := Option.some.inj (hfree 3 (fr 3 (by kernel_rfl)))
    have bs4 : fs 4 = .bool false := Option.some.inj (hfree 4 (fr 4 (by kernel_rfl)))
    obtain ⟨g, c1, c2, c3, eg, rg, qg⟩ : ∃ g a b c, (some (fs 5)) = some (ptrV g) ∧ Row W g 27 [a, b, c] ∧ IsP W (NX w1.heap.size W ((some (fs 5)))) (.agg #[a, b, c]) (p) := hall 11 _ oq11
    have bs5 : fs 5 = ptrV g := Option.some.inj eg
    have hJ2 : boxJ _ _ W (some (fs 5)) := hJ
    rw [bs5] at qg hJ2
    obtain ⟨hg1, hg2⟩ := hJ2.2.2 g rfl
    clear hops fr oq0 oq1 oq2 oq3 oq4 oq5 oq6 oq7 oq8 oq9 oq10 oq11
    clear hall hfree hJ hJ2 eg hsz
    rw [bs2, bs3, bs4, bs5]
    clear bs2 bs3 bs4 bs5
    have B2 := Lib.hid (zaa B1.out hbw)
    have RP2 := Lib.hid (RP.out.next hbw)
    have RS2 := Lib.hid (RS.out.next hbw)
    have OWN := Lib.hid qg
    have RG := Lib.hid rg
    obtain ⟨w2, hw2⟩ : ∃ x, x = W := ⟨_, rfl⟩
    rw [← hw2] at B2 RP2 RS2 OWN RG hg2 ⊢
    clear qg rg hbw hw2 B0 RP RS
    go_wp2_with fail
    refine zey fun ops hops => ?_
    have oq0 := zaw (j := 0) hops rfl
    have oq1 := zaw (j := 1) hops rfl
    have oq2 := zaw (j := 2) hops rfl
    have oq3 := zaw (j := 3) hops rfl
    have oq4 := zaw (j := 4) hops rfl
    have oq5 := zaw (j := 5) hops rfl
    have oq6 := zaw (j := 6) hops rfl
    have oq7 := zaw (j := 7) hops rfl
    have oq8 := zaw (j := 8) hops rfl
    have oq9 := zaw (j := 9) hops rfl
    have oq10 := zaw (j := 10) hops rfl
    have oq11 := zaw (j := 11) hops rfl
    have fr := fun t h => slot_abs hops t h
    refine zeh (AcGrow w s X cX D cD R cR w2.heap.size) (by kernel_rfl) (acGrow_stb w s X cX D cD R cR w2.heap.size) (by rw [hops]; kernel_rfl) ?step ?fin
    case step =>
      intro i o hi a W hsz hdf hbw hfree hdep
      obtain ⟨T, df⟩ := a
      replace hsz : T.size = 109 := hsz
      obtain rfl : df = [] := hdf
      match i, hi with
      | 0, hi =>
        obtain rfl := Option.some.inj (oq0.symm.trans hi)
        have e3 : T[3]? = some (.pointer (some ⟨(w.heap.size + 1), 0, none⟩)) := hfree 3 (fr 3 (by kernel_rfl))
        refine zao rfl ?_
        clear hdep hfree hsz hops fr oq0 oq1 oq2 oq3 oq4 oq5 oq6 oq7 oq8 oq9 oq10 oq11
        refine zai fun K hK => ?_
        go_simp
        exact hK (.pointer (some ⟨(w.heap.size + 1), 4, none⟩)) _ (Below.refl _ _) (rfl)
      | 1, hi =>
        obtain rfl := Option.some.inj (oq1.symm.trans hi)
        have e47 : T[47]? = some (.pointer (some ⟨(w.heap.size + 1), 4, none⟩)) := zal (by omega) (hdep 0 _ 47 (odt (by kernel_rfl)) oq0 rfl)
        refine zao rfl ?_
        clear hdep hfree hsz hops fr oq0 oq1 oq2 oq3 oq4 oq5 oq6 oq7 oq8 oq9 oq10 oq11
        obtain ⟨c0, c1, c2, c3, c4, c5, c6⟩ := zba (RS2.out.next hbw)
        refine zai fun K hK => ?_
        go_simp
        exact hK (.slice X s.X.length cX) _ (Below.refl _ _) (rfl)
      | 2, hi =>
        obtain rfl := Option.some.inj (oq2.symm.trans hi)
        have e48 : T[48]? = some (.slice X s.X.length cX) := zal (by omega) (hdep 1 _ 48 (odt (by kernel_rfl)) oq1 rfl)
        refine zao rfl ?_
        clear hdep hfree hsz hops fr oq0 oq1 oq2 oq3 oq4 oq5 oq6 oq7 oq8 oq9 oq10 oq11
        refine zai fun K hK => ?_
        go_simp
        refine (own_v (IsV.stb.to HVX.out (zag (zaa B2.out hbw))) ShX.out.2 (by have := ShX.out.1; omega)).mono ?_
        rintro e w' ⟨⟨v, rfl, hv⟩, hb⟩
        exact hK v w' hb (IsV.stb.le hv hbw.size)
      | 3, hi =>
        obtain rfl := Option.some.inj (oq3.symm.trans hi)
        have e3 : T[3]? = some (.pointer (some ⟨(w.heap.size + 1), 0, none⟩)) := hfree 3 (fr 3 (by kernel_rfl))
        refine zao rfl ?_
        clear hdep hfree hsz hops fr oq0 oq1 oq2 oq3 oq4 oq5 oq6 oq7 oq8 oq9 oq10 oq11
        refine zai fun K hK => ?_
        go_simp
        exact hK (.pointer (some ⟨(w.heap.size + 1), 5, none⟩)) _ (Below.refl _ _) (rfl)
      | 4, hi =>
        obtain rfl := Option.some.inj (oq4.symm.trans hi)
        have e50 : T[50]? = some (.pointer (some ⟨(w.heap.size + 1), 5, none⟩)) := zal (by omega) (hdep 3 _ 50 (odt (by kernel_rfl)) oq3 rfl)
        refine zao rfl ?_
        clear hdep hfree hsz hops fr oq0 oq1 oq2 oq3 oq4 oq5 oq6 oq7 oq8 oq9 oq10 oq11
        obtain ⟨c0, c1, c2, c3, c4, c5, c6⟩ := zba (RS2.out.next hbw)
        refine zai fun K hK => ?_
        go_simp
        exact hK (.slice D s.D.length cD) _ (Below.refl _ _) (rfl)
      | 5, hi =>
        obtain rfl := Option.some.inj (oq5.symm.trans hi)
        have e51 : T[51]? = some (.slice D s.D.length cD) := zal (by omega) (hdep 4 _ 51 (odt (by kernel_rfl)) oq4 rfl)
        refine zao rfl ?_
        clear hdep hfree hsz hops fr oq0 oq1 oq2 oq3 oq4 oq5 oq6 oq7 oq8 oq9 oq10 oq11
        refine zai fun K hK => ?_
        go_simp
        refine (own_v (IsV.stb.to HVD.out (zag (zaa B2.out hbw))) ShD.out.2 (by have := ShD.out.1; omega)).mono ?_
        rintro e w' ⟨⟨v, rfl, hv⟩, hb⟩
        exact hK v w' hb (IsV.stb.le hv hbw.size)
      | 6, hi =>
        obtain rfl := Option.some.inj (oq6.symm.trans hi)
        have e3 : T[3]? = some (.pointer (some ⟨(w.heap.size + 1), 0, none⟩)) := hfree 3 (fr 3 (by kernel_rfl))
        refine zao rfl ?_
        clear hdep hfree hsz hops fr oq0 oq1 oq2 oq3 oq4 oq5 oq6 oq7 oq8 oq9 oq10 oq11
        refine zai fun K hK => ?_
        go_simp
        exact hK (.pointer (some ⟨(w.heap.size + 1), 6, none⟩)) _ (Below.refl _ _) (rfl)
      | 7, hi =>
        obtain rfl := Option.some.inj (oq7.symm.trans hi)
        have e53 : T[53]? = some (.pointer (some ⟨(w.heap.size + 1), 6, none⟩)) := zal (by omega) (hdep 6 _ 53 (odt (by kernel_rfl)) oq6 rfl)
        refine zao rfl ?_
        clear hdep hfree hsz hops fr oq0 oq1 oq2 oq3 oq4 oq5 oq6 oq7 oq8 oq9 oq10 oq11
        obtain ⟨c0, c1, c2, c3, c4, c5, c6⟩ := zba (RS2.out.next hbw)
        refine zai fun K hK => ?_
        go_simp
        exact hK (.slice R s.R.length cR) _ (Below.refl _ _) (rfl)
      | 8, hi =>
        obtain rfl := Option.some.inj (oq8.symm.trans hi)
        have e54 : T[54]? = some (.slice R s.R.length cR) := zal (by omega) (hdep 7 _ 54 (odt (by kernel_rfl)) oq7 rfl)
        refine zao rfl ?_
        clear hdep hfree hsz hops fr oq0 oq1 oq2 oq3 oq4 oq5 oq6 oq7 oq8 oq9 oq10 oq11
        refine zai fun K hK => ?_
        go_simp
        refine (own_v (IsV.stb.to HVR.out (zag (zaa B2.out hbw))) ShR.out.2 (by have := ShR.out.1; omega)).mono ?_
        rintro e w' ⟨⟨v, rfl, hv⟩, hb⟩
        exact hK v w' hb (IsV.stb.le hv hbw.size)
      | 9, hi =>
        obtain rfl := Option.some.inj (oq9.symm.trans hi)
        have d49 : IsV W (New w2.heap.size W) (T.getD 49 undef) s.X := hdep 2 _ 49 (odt (by kernel_rfl)) oq2 rfl
        obtain ⟨v49, e49, g49⟩ := zbz (T := T) (t := 49) (by omega)
        rw [g49] at d49
        clear g49
        refine zao rfl ?_
        clear hdep hfree hsz hops fr oq0 oq1 oq2 oq3 oq4 oq5 oq6 oq7 oq8 oq9 oq10 oq11
        refine zai fun K hK => ?_
        go_simp
        exact hK v49 _ (Below.refl _ _) d49
      | 10, hi =>
        obtain rfl := Option.some.inj (oq10.symm.trans hi)
        have d52 : IsV W (New w2.heap.size W) (T.getD 52 undef) s.D := hdep 5 _ 52 (odt (by kernel_rfl)) oq5 rfl
        obtain ⟨v52, e52, g52⟩ := zbz (T := T) (t := 52) (by omega)
        rw [g52] at d52
        clear g52
        refine zao rfl ?_
        clear hdep hfree hsz hops fr oq0 oq1 oq2 oq3 oq4 oq5 oq6 oq7 oq8 oq9 oq10 oq11
        refine zai fun K hK => ?_
        go_simp
        exact hK v52 _ (Below.refl _ _) d52
      | 11, hi =>
        obtain rfl := Option.some.inj (oq11.symm.trans hi)
        have d55 : IsV W (New w2.heap.size W) (T.getD 55 undef) s.R := hdep 8 _ 55 (odt (by kernel_rfl)) oq8 rfl
        obtain ⟨v55, e55, g55⟩ := zbz (T := T) (t := 55) (by omega)
        rw [g55] at d55
        clear g55
        refine zao rfl ?_
        clear hdep hfree hsz hops fr oq0 oq1 oq2 oq3 oq4 oq5 oq6 oq7 oq8 oq9 oq10 oq11
        refine zai fun K hK => ?_
        go_simp
        exact hK v55 _ (Below.refl _ _) d55
      | _ + 12, hi => rw [hops] at hi; cases hi
    case fin =>
      intro a W hsz hdf hbw hfree hall
      obtain ⟨⟨l⟩, df⟩ := a
      replace hsz : l.length = 109 := hsz
      obtain ⟨fs, rfl⟩ := open109 hsz
      obtain rfl : df = [] := hdf
      have bs2 : fs 2 = .pointer (some ⟨w.heap.size, 0, none⟩) := Option.some.inj (hfree 2 (fr 2 (by kernel_rfl)))
      have bs3 : fs 3 = .pointer (some ⟨(w.heap.size + 1), 0, none⟩) := Option.some.inj (hfree 3 (fr 3 (by kernel_rfl)))
      have bs4 : fs 4 = .bool false := Option.some.inj (hfree 4 (fr 4 (by kernel_rfl)))
      have bs5 : fs 5 = ptrV g := Option.some.inj (hfree 5 (fr 5 (by kernel_rfl)))
      have q6 : IsV W (New w2.heap.size W) (fs 6) s.X := hall 9 _ 6 oq9 rfl
      have q7 : IsV W (New w2.heap.size W) (fs 7) s.D := hall 10 _ 7 oq10 rfl
      have q8 : IsV W (New w2.heap.size W) (fs 8) s.R := hall 11 _ 8 oq11 rfl
      clear hops fr oq0 oq1 oq2 oq3 oq4 oq5 oq6 oq7 oq8 oq9 oq10 oq11
      clear hall hfree hsz
      rw [bs2, bs3, bs4, bs5]
      clear bs2 bs3 bs4 bs5
      obtain ⟨t6, ht6⟩ : ∃ t, t = fs 6 := ⟨_, rfl⟩
      rw [← ht6] at q6 ⊢
      clear ht6
      obtain ⟨t7, ht7⟩ : ∃ t, t = fs 7 := ⟨_, rfl⟩
      rw [← ht7] at q7 ⊢
      clear ht7
      obtain ⟨t8, ht8⟩ : ∃ t, t = fs 8 := ⟨_, rfl⟩
      rw [← ht8] at q8 ⊢
      clear ht8
      have hs2 := hbw.size
      have B4 := Lib.hid (zaa B2.out hbw)
      have RP4 := Lib.hid (RP2.out.next hbw)
      have RS4 := Lib.hid (RS2.out.next hbw)
      have OWN4 := Lib.hid (nx_below IsP.stb OWN.out hbw)
      have RG4 := Lib.hid (RG.out.next hbw)
      have X4 := Lib.hid q6
      have D4 := Lib.hid q7
      have R4 := Lib.hid q8
      have e6 := (zau q6)
      have e7 := (zau q7)
      have e8 := (zau q8)
      have X4x : Hid (∀ W', Below W.heap.size W W' → IsV W' (Old W') _ s.X) := fun W' h => IsV.stb.to (IsV.stb.to q6 (zat (T := Old W) new_old)) (zag h)
      have D4x : Hid (∀ W', Below W.heap.size W W' → IsV W' (Old W') _ s.D) := fun W' h => IsV.stb.to (IsV.stb.to q7 (zat (T := Old W) new_old)) (zag h)
      have R4x : Hid (∀ W', Below W.heap.size W W' → IsV W' (Old W') _ s.R) := fun W' h => IsV.stb.to (IsV.stb.to q8 (zat (T := Old W) new_old)) (zag h)
      clear q6 q7 q8 hbw B2 RP2 RS2 OWN RG
      obtain ⟨a6, k6, rfl, _⟩ := e6
      obtain ⟨a7, k7, rfl, _⟩ := e7
      obtain ⟨a8, k8, rfl, _⟩ := e8
      have hOW : IsP W (Old W) (.agg #[c1, c2, c3]) p := IsP.stb.to OWN4.out (zat fun b h => h.2.1)
      have HOW := Lib.hid hOW
      have hex : ∃ A7 k7 B7 l7 C7 m7, Value.agg #[c1, c2, c3] = .agg #[.slice A7 p.A.length k7, .slice B7 p.B.length l7, .slice C7 p.C.length m7] := by
        obtain ⟨A7, k7, B7, l7, C7, m7, e, _⟩ := hOW
        exact ⟨A7, k7, B7, l7, C7, m7, e⟩
      obtain ⟨A7, n7, B7, l7, C7, m7, e7⟩ := hex
      cases e7
      clear hOW OWN4
      have HSW := Lib.hid (zcq HSo.out B4.out)
      have HPW := Lib.hid (IsP.stb.to HP.out (zag B4.out))
      have hso2 : IsSol W (Old W) (.agg #[.int .i64 s.st, .bool s.val.neg, .slice P s.val.num.length cP, .slice Q s.val.den.length cQ, .slice a6 s.X.length k6, .slice a7 s.D.length k7, .slice a8 s.R.length k8]) s :=
        ⟨P, cP, Q, cQ, a6, k6, a7, k7, a8, k8, rfl, IsR.stb.to HVV.out (zag B4.out), IsV.stb.to X4.out (zat new_old), IsV.stb.to D4.out (zat new_old), IsV.stb.to R4.out (zat new_old)⟩
      have HSO2 := Lib.hid hso2
      clear hso2
      obtain ⟨p0, p1, p2⟩ := zad RP4.out
      obtain ⟨s0, s1, s2, s3, s4, s5, s6⟩ := zba RS4.out
      obtain ⟨o0, o1, o2⟩ := zad RG4.out
      go_wp2_with fail
      refine (C1.out W _ _ (Bru.next HB.out B4.out) HOW.out HSO2.out).mono ?_
      rintro e w5 ⟨rfl, hb⟩
      have B5 := Lib.hid (zaa B4.out hb)
      have Z5 := Lib.hid hb
      have RP5 := Lib.hid (RP4.out.next hb)
      have RS5 := Lib.hid (RS4.out.next hb)
      have RG5 := Lib.hid (RG4.out.next hb)
      have OW5 := Lib.hid (IsP.stb.to HOW.out (zag hb))
      have HP5 := Lib.hid (IsP.stb.to HPW.out (zag hb))
      have HS5 := Lib.hid (zcq HSW.out hb)
      have HO5 := Lib.hid (zcq HSO2.out hb)
      clear hb p0 p1 p2 s0 s1 s2 s3 s4 s5 s6 o0 o1 o2
      obtain ⟨p0, p1, p2⟩ := zad RP5.out
      obtain ⟨s0, s1, s2, s3, s4, s5, s6⟩ := zba RS5.out
      obtain ⟨o0, o1, o2⟩ := zad RG5.out
      go_wp2_with fail
      refine (C2.out w5 _ _ (Bru.next HB.out B5.out) HP5.out HS5.out).mono ?_
      rintro e w6 ⟨rfl, hb⟩
      have B6 := Lib.hid (zaa B5.out hb)
      have Z6 := Lib.hid (zaa Z5.out hb)
      have RP6 := Lib.hid (RP5.out.next hb)
      have RS6 := Lib.hid (RS5.out.next hb)
      have RG6 := Lib.hid (RG5.out.next hb)
      have OW6 := Lib.hid (IsP.stb.to OW5.out (zag hb))
      have HP6 := Lib.hid (IsP.stb.to HP5.out (zag hb))
      have HO6 := Lib.hid (zcq HO5.out hb)
      clear hb p0 p1 p2 s0 s1 s2 s3 s4 s5 s6 o0 o1 o2 HP5 HO5 HS5 OW5
      obtain ⟨p0, p1, p2⟩ := zad RP6.out
      obtain ⟨s0, s1, s2, s3, s4, s5, s6⟩ := zba RS6.out
      obtain ⟨o0, o1, o2⟩ := zad RG6.out
      have ee1 : (b == b) = true := beq_self_eq_true b
      have ee2 : (e0 == e0) = true := beq_self_eq_true e0
      go_wp2_with fail
      refine (same_p OW6.out HP6.out).mono ?_
      rw [decide_eq_true rfl]
      rintro e w7 ⟨rfl, hb⟩
      have B7 := Lib.hid (zaa B6.out hb)
      have Z7 := Lib.hid (zaa Z6.out hb)
      have RS7 := Lib.hid (RS6.out.next hb)
      have HO7 := Lib.hid (zcq HO6.out hb)
      clear hb p0 p1 p2 s0 s1 s2 s3 s4 s5 s6 o0 o1 o2 OW6 HP6 HO6
      obtain ⟨s0, s1, s2, s3, s4, s5, s6⟩ := zba RS7.out
      go_wp2_with fail
      refine (same_v (a := s.X) (b := s.X) (X4x.out _ Z7.out) (IsV.stb.to HVX.out (zag B7.out))).mono ?_
      rw [decide_eq_true rfl]
      rintro e w8 ⟨rfl, hb⟩
      have B8 := Lib.hid (zaa B7.out hb)
      have Z8 := Lib.hid (zaa Z7.out hb)
      have RS8 := Lib.hid (RS7.out.next hb)
      clear hb s0 s1 s2 s3 s4 s5 s6
      obtain ⟨s0, s1, s2, s3, s4, s5, s6⟩ := zba RS8.out
      go_wp2_with fail
      refine (same_v (a := s.D) (b := s.D) (D4x.out _ Z8.out) (IsV.stb.to HVD.out (zag B8.out))).mono ?_
      rw [decide_eq_true rfl]
      rintro e w9 ⟨rfl, hb⟩
      have B9 := Lib.hid (zaa B8.out hb)
      have Z9 := Lib.hid (zaa Z8.out hb)
      have RS9 := Lib.hid (RS8.out.next hb)
      clear hb s0 s1 s2 s3 s4 s5 s6
      obtain ⟨s0, s1, s2, s3, s4, s5, s6⟩ := zba RS9.out
      go_wp2_with fail
      refine (same_v (a := s.R) (b := s.R) (R4x.out _ Z9.out) (IsV.stb.to HVR.out (zag B9.out))).mono ?_
      rw [decide_eq_true rfl]
      rintro e w10 ⟨rfl, hb⟩
      have B10 := Lib.hid (zaa B9.out hb)
      have Z10 := Lib.hid (zaa Z9.out hb)
      have RS10 := Lib.hid (RS9.out.next hb)
      clear hb s0 s1 s2 s3 s4 s5 s6
      obtain ⟨s0, s1, s2, s3, s4, s5, s6⟩ := zba RS10.out
      go_wp2_with fail
      refine (awake5_l (Bru.next HB.out B10.out)).mono ?_
      rintro e wz ⟨rfl, hb⟩
      go_wp2_with fail
      go_ret
      exact ⟨rfl, zaa B10.out hb⟩
  theorem law_dacc {w : World} {vp vs : Value} {p : Prog} {s : Sol} (hp : IsP w (Old w) vp p) (hs : IsSol w (Old w) vs s) (hwf : (Lit.int .i64 s.st).wf = true) (hB : Bru w) :
      Calls Tryz.prog 3 #[vp, vs] w fun en w' => en = .returned (.bool true) ∧ Below w.heap.size w w' := by
    obtain ⟨b, e, h1, h2⟩ := acc_all p s hwf
    exact law_dacc_of hp hs hB h1 h2
  end Go.Proofs.YtblpaocignlpkaaGreatDoor
