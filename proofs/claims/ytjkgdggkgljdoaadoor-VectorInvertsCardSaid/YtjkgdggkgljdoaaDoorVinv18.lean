/-
  Contracts of package vector: fold with dot's step, dot, Dot.
-/
import Derived.Test.YtjkgdggkgljdoaaDoorVinv12
import Derived.Test.YtjkgdggkgljdoaaDoorVinv11
import Derived.Test.YtjkgdggkgljdoaaDoorVinv02
import Derived.Test.YtjkgdggkgljdoaaDoorVinv06
import Derived.Test.YtjkgdggkgljdoaaDoorVinv09
import Derived.Test.YtjkgdggkgljdoaaDoorVinv17
import Derived.Test.YtjkgdggkgljdoaaDoorVinv16
import Derived.Test.YtjkgdggkgljdoaaDoorVinv07
import Derived.Test.YtjkgdggkgljdoaaDoorVinv04
namespace Go.Proofs.YtjkgdggkgljdoaaDoor
open Go.RowKit
set_option linter.unusedVariables false
theorem open28 {l : List Value} (h : l.length = 28) : ∃ fs : Nat → Value, l = [fs 0, fs 1, fs 2, fs 3, fs 4, fs 5, fs 6, fs 7, fs 8, fs 9, fs 10, fs 11, fs 12, fs 13, fs 14, fs 15, fs 16, fs 17, fs 18, fs 19, fs 20, fs 21, fs 22, fs 23, fs 24, fs 25, fs 26, fs 27] := by
  refine ⟨fun i => l.getD i undef, ?_⟩
  have e : l = (List.range 28).map (fun i => l.getD i undef) := by
    apply List.ext_getElem
    · simp [h]
    · intro i h1 h2
      simp [List.getD_eq_getElem?_getD, List.getElem?_eq_getElem h1]
  exact e.trans rfl
def PhiFo (b2 o2 M cB k : Nat) (s0 x0 y0 : Bool) (s1 s4 X1 X3 Y1 Y3 : Option Addr) (s2 s3 s5 s6 x1 X2 x2 X4 y1 Y2 y2 Y4 : Nat) (i : Nat) (v : Value) (w : World) (X : Nat → Option Value) : Prop :=
  match i with
  | 0 => v = .func (.func 111) #[] #[]
  | 1 => v = .agg #[.bool s0, .slice s1 s2 s3, .slice s4 s5 s6]
  | 2 => v = .agg #[.bool x0, .slice X1 x1 X2, .slice X3 x2 X4]
  | 3 => v = .slice (some ⟨b2, o2, none⟩) M cB
  | 4 => v = .int .i64 (k : Int)
  | 5 => v = .pointer (some ⟨b2, (o2 + k * 3), none⟩)
  | 6 => v = .agg #[.bool y0, .slice Y1 y1 Y2, .slice Y3 y2 Y4]
  | _ => True
theorem phiFo_st (b2 o2 M cB k : Nat) (s0 x0 y0 : Bool) (s1 s4 X1 X3 Y1 Y3 : Option Addr) (s2 s3 s5 s6 x1 X2 x2 X4 y1 Y2 y2 Y4 : Nat) : ∀ i v (w w' : World) X X', PhiFo b2 o2 M cB k s0 x0 y0 s1 s4 X1 X3 Y1 Y3 s2 s3 s5 s6 x1 X2 x2 X4 y1 Y2 y2 Y4 i v w X → PhiFo b2 o2 M cB k s0 x0 y0 s1 s4 X1 X3 Y1 Y3 s2 s3 s5 s6 x1 X2 x2 X4 y1 Y2 y2 Y4 i v w' X' := fun i v w w' X X' h => by
  match i, h with
  | 0, h => exact h
  | 1, h => exact h
  | 2, h => exact h
  | 3, h => exact h
  | 4, h => exact h
  | 5, h => exact h
  | 6, h => exact h
  | _ + 7, _ => exact trivial
theorem heap_put3' (w : World) (g : Nat) (a b c : Value) {k : Nat} (h : k ≠ g) : (put3 w g a b c).heap[k]? = w.heap[k]? := by
  rw [put3, Below.heap_setCell _ _ _ _ h, Below.heap_setCell _ _ _ _ h, Below.heap_setCell _ _ _ _ h]
set_option maxRecDepth 100000 in
set_option maxHeartbeats 4000000 in
theorem fold_q {w : World} {va vb v0 : Value} {a b : List Rat} {M : Nat} {S0 : Nat → Prop} (ha : IsV w (Old w) va (rawV a)) (hb : IsV w (Old w) vb (rawV b)) (h0 : IsQ w S0 v0 0) (hS0 : ∀ b, S0 b → b < w.heap.size) (hB : Bru w) (hla : a.length = M) (hlb : b.length = M) (hM : M ≤ 40) (sa : ∀ q ∈ a, Sz q 1024) (sb : ∀ q ∈ b, Sz q 1024) :
    Calls Tryd.prog 110 #[va, vb, v0, .func (.func 111) #[] #[]] w fun e w' => (∃ v, e = .returned v ∧ IsQ w' (fun b => S0 b ∨ (w.heap.size ≤ b ∧ b < w'.heap.size)) v (dotQ a b)) ∧ Below w.heap.size w w' := by
  have HA := Lib.hid ha
  have HV := Lib.hid hb
  have HB := Lib.hid hB
  have Hla := Lib.hid hla
  have Hlb := Lib.hid hlb
  have Hsa := Lib.hid sa
  have Hsb := Lib.hid sb
  have Hz40 : Hid (∀ k, Sz (sumP ((a.zip b).take k)) 100000) := fun k => sumP_any (n := 1024) (by rw [List.length_take, List.length_zip]; omega) fun p hp => by
    have := List.of_mem_zip (List.mem_of_mem_take hp)
    exact ⟨sa _ this.1, sb _ this.2⟩
  obtain ⟨A, cA, rfl, _⟩ := zcm ha
  obtain ⟨B, cB, rfl, _⟩ := zcm hb
  have ela : (rawV a).length = M := by simp [rawV, hla]
  have elb : (rawV b).length = M := by simp [rawV, hlb]
  rw [ela] at HA
  rw [elb] at HV
  rw [ela, elb]
  have H0 := Lib.hid h0
  have HS0 := Lib.hid hS0
  obtain ⟨z0, Z1, Z2, Z3, Z4, rfl, _, _, _⟩ := zam h0
  obtain ⟨z1, hz1⟩ : ∃ z, z = (lim (0 : Rat).num.natAbs).length := ⟨_, rfl⟩
  obtain ⟨z2, hz2⟩ : ∃ z, z = (lim (0 : Rat).den).length := ⟨_, rfl⟩
  rw [← hz1, ← hz2] at H0 ⊢
  clear ha hb hla hlb sa sb ela elb h0 hB hS0 hz1 hz2
  obtain ⟨w0, hw0, hb0, rS, rZ, Hz⟩ := zfp w #[.bool z0, .slice Z1 z1 Z2, .slice Z3 z2 Z4] #[.bool false, .slice none 0 0, .slice none 0 0] 50 50
  have RS := Lib.hid rS
  have RZ := Lib.hid rZ
  have HB0 := Lib.hid hb0
  clear rS rZ hb0
  go_enter Tryd.func110, Tryd.ntmps110
  go_wp2_with fail
  clear hw0
  go_loopw [13, 9, 10] (fun i _ _ wr => ∃ (k : Nat) (s0 : Bool) (s1 s4 : Option Addr) (s2 s3 s5 s6 : Nat), k ≤ M ∧ i = .int .i64 (k : Int) ∧ Below w.heap.size w wr ∧ Row wr w.heap.size 50 [.bool s0, .slice s1 s2 s3, .slice s4 s5 s6] ∧ Row wr (w.heap.size + 1) 50 [.bool false, .slice none 0 0, .slice none 0 0] ∧ IsQ wr (fun b => S0 b ∨ (w.heap.size + 2 ≤ b ∧ b < wr.heap.size)) (.agg #[.bool s0, .slice s1 s2 s3, .slice s4 s5 s6]) (sumP ((a.zip b).take k)) ∧ Hid (w0.heap.size ≤ wr.heap.size)) (fun i _ _ _ => M - (intOf i).toNat)
  case atStart =>
    refine ⟨0, _, _, _, _, _, _, _, Nat.zero_le _, rfl, HB0.out, RS.out, RZ.out, ?_, Nat.le_refl _⟩
    have hz := Hz.out
    exact IsQ.stb.to H0.out fun x hx => ⟨.inl hx, fun o => HB0.out.cell (p := ⟨x, o, none⟩) (HS0.out x hx)⟩
  case round =>
    obtain ⟨k, s0, s1, s4, s2, s3, s5, s6, hk, rfl, hbw, rs, rz, hs, hsz⟩ := hrel
    have RSw := Lib.hid rs
    have RZw := Lib.hid rz
    have Hs := Lib.hid hs
    have HBw := Lib.hid hbw
    clear rs rz hs
    rcases Nat.lt_or_ge k M with hlt | hge
    · obtain ⟨x, hx, hrx⟩ := zeh (l := a) (j := k) (by rw [Hla.out]; exact hlt)
      obtain ⟨y, hy, hry⟩ := zeh (l := b) (j := k) (by rw [Hlb.out]; exact hlt)
      obtain ⟨b1, o1, X1, X2, X3, X4, rfl, hSb1, helx, c0, c1, c2⟩ := zdn HA.out hrx
      obtain ⟨b2, o2, Y1, Y2, Y3, Y4, rfl, hSb2, hely, d0, d1, d2⟩ := zdn HV.out hry
      obtain ⟨x0, hx0⟩ : ∃ s, s = (raw x).neg := ⟨_, rfl⟩
      obtain ⟨x1, hx1⟩ : ∃ s, s = (raw x).num.length := ⟨_, rfl⟩
      obtain ⟨x2, hx2⟩ : ∃ s, s = (raw x).den.length := ⟨_, rfl⟩
      obtain ⟨y0, hy0⟩ : ∃ s, s = (raw y).neg := ⟨_, rfl⟩
      obtain ⟨y1, hy1⟩ : ∃ s, s = (raw y).num.length := ⟨_, rfl⟩
      obtain ⟨y2, hy2⟩ : ∃ s, s = (raw y).den.length := ⟨_, rfl⟩
      rw [← hx0] at c0
      rw [← hx1] at c1
      rw [← hx2] at c2
      rw [← hy0] at d0
      rw [← hy1] at d1
      rw [← hy2] at d2
      rw [← hx0, ← hx1, ← hx2] at helx
      rw [← hy0, ← hy1, ← hy2] at hely
      replace c0 := hbw.cell (p := ⟨b1, o1 + k * 3, none⟩) hSb1 |>.trans c0
      replace c1 := hbw.cell (p := ⟨b1, o1 + k * 3 + 1, none⟩) hSb1 |>.trans c1
      replace c2 := hbw.cell (p := ⟨b1, o1 + k * 3 + 2, none⟩) hSb1 |>.trans c2
      have Hy3 : Hid (w.cell? ⟨b2, o2 + k * 3, none⟩ = some (.bool y0) ∧ w.cell? ⟨b2, o2 + k * 3 + 1, none⟩ = some (.slice Y1 y1 Y2) ∧ w.cell? ⟨b2, o2 + k * 3 + 2, none⟩ = some (.slice Y3 y2 Y4)) := ⟨d0, d1, d2⟩
      have Qx := Lib.hid (IsQ.stb.to (isR_isQ helx) (zba hbw))
      have Qy := Lib.hid (IsQ.stb.to (isR_isQ hely) (zba hbw))
      have Hx := Lib.hid hx
      have Hy := Lib.hid hy
      have cr := zbr
      have Hsb1 : Hid (b1 < w.heap.size ∧ b2 < w.heap.size) := ⟨hSb1, hSb2⟩
      clear hx hy hrx hry helx hely hx0 hx1 hx2 hy0 hy1 hy2 d0 d1 d2 hSb1 hSb2
      obtain ⟨wx, hwx⟩ : ∃ x, x = wr.alloc (.cells #[.bool x0, .slice X1 x1 X2, .slice X3 x2 X4] 50) := ⟨_, rfl⟩
      have hz0 := Hz.out
      have hbx : Below wr.heap.size wr wx := by rw [hwx]; exact zbt _ _
      have hrx : Row wx wr.heap.size 50 [.bool x0, .slice X1 x1 X2, .slice X3 x2 X4] := by rw [hwx]; exact heap_alloc_new _ _
      have hszx : wx.heap.size = wr.heap.size + 1 := by rw [hwx, World.size_alloc]
      go_wp2_with fail
      rw [← hwx]
      obtain ⟨wd, hwd⟩ : ∃ x, x = wx.drew := ⟨_, rfl⟩
      have hbd : Below wr.heap.size wr wd := by rw [hwd]; exact zaa hbx (zab _)
      have BD := Lib.hid hbd
      have Hwd := Lib.hid hwd
      have hszd : wd.heap.size = wr.heap.size + 1 := by rw [hwd]; exact hszx
      have RX : Hid (Row wd wr.heap.size 50 [.bool x0, .slice X1 x1 X2, .slice X3 x2 X4]) := by rw [Hid, hwd]; exact hrx
      have RSd := Lib.hid (RSw.out.next hbd)
      have RZd := Lib.hid (RZw.out.next hbd)
      have Bwd := Lib.hid (zaa HBw.out hbd)
      obtain ⟨m0, m1, m2⟩ := zad RSd.out
      obtain ⟨n0, n1, n2⟩ := zad RX.out
      have d0 := Bwd.out.cell (p := ⟨b2, o2 + k * 3, none⟩) Hsb1.out.2 |>.trans Hy3.out.1
      have d1 := Bwd.out.cell (p := ⟨b2, o2 + k * 3 + 1, none⟩) Hsb1.out.2 |>.trans Hy3.out.2.1
      have d2 := Bwd.out.cell (p := ⟨b2, o2 + k * 3 + 2, none⟩) Hsb1.out.2 |>.trans Hy3.out.2.2
      clear hwx hbx hrx hszx hwd hbd c0 c1 c2 Hy3
      refine region_abs fun ops hops => ?_
      have oq0 := zax (j := 0) hops rfl
      have oq1 := zax (j := 1) hops rfl
      have oq2 := zax (j := 2) hops rfl
      have oq3 := zax (j := 3) hops rfl
      have oq4 := zax (j := 4) hops rfl
      have oq5 := zax (j := 5) hops rfl
      have oq6 := zax (j := 6) hops rfl
      have oq7 := zax (j := 7) hops rfl
      have oq8 := zax (j := 8) hops rfl
      have fr := fun t h => zey (n := 7) hops t h
      refine zfk 7 (PhiFo b2 o2 M cB k s0 x0 y0 s1 s4 X1 X3 Y1 Y3 s2 s3 s5 s6 x1 X2 x2 X4 y1 Y2 y2 Y4) (fun _ _ => True) (fun x => x = wd) (fun _ w w' => w.grownBy w' none) (by kernel_rfl) Hwd.out.symm (fun _ => trivial) (fun _ _ _ _ _ _ _ _ => trivial) (fun i _ v wa wb X u _ _ h _ _ => phiFo_st _ _ _ _ _ _ _ _ _ _ _ _ _ _ _ _ _ _ _ _ _ _ _ _ _ _ i v wa wb X _ h) (by rw [hops]; kernel_rfl) (by rw [hops]; kernel_rfl) ?step ?fin
      case step =>
        intro i o hin hi a W X hsz hdf hJ hP hXi hfree hdep
        obtain ⟨T, df⟩ := a
        replace hsz : T.size = 28 := hsz
        obtain rfl : df = [] := hdf
        match i, hin, hi, hXi, hP with
        | 0, _, hi, hXi, hP =>
          obtain rfl := Option.some.inj (oq0.symm.trans hi)
          have e3 : T[3]? = some (.func (.func 111) #[] #[]) := hfree 3 (fr 3 (by kernel_rfl))
          subst hJ
          refine zaj rfl ?_
          refine zao (E := fun w' => W.grownBy w' (none)) (Φ := PhiFo b2 o2 M cB k s0 x0 y0 s1 s4 X1 X3 Y1 Y3 s2 s3 s5 s6 x1 X2 x2 X4 y1 Y2 y2 Y4 0) fun K hK => ?_
          clear hdep hfree hsz hops fr oq0 oq1 oq2 oq3 oq4 oq5 oq6 oq7 oq8
          go_simp
          exact hK (.func (.func 111) #[] #[]) _ (zak _ _) rfl rfl
        | 1, _, hi, hXi, hP =>
          obtain rfl := Option.some.inj (oq1.symm.trans hi)
          have e6 : T[6]? = some (.pointer (some ⟨w.heap.size, 0, none⟩)) := hfree 6 (fr 6 (by kernel_rfl))
          subst hJ
          refine zaj rfl ?_
          refine zao (E := fun w' => W.grownBy w' (none)) (Φ := PhiFo b2 o2 M cB k s0 x0 y0 s1 s4 X1 X3 Y1 Y3 s2 s3 s5 s6 x1 X2 x2 X4 y1 Y2 y2 Y4 1) fun K hK => ?_
          clear hdep hfree hsz hops fr oq0 oq1 oq2 oq3 oq4 oq5 oq6 oq7 oq8
          go_simp
          exact hK (.agg #[.bool s0, .slice s1 s2 s3, .slice s4 s5 s6]) _ (zak _ _) rfl rfl
        | 2, _, hi, hXi, hP =>
          obtain rfl := Option.some.inj (oq2.symm.trans hi)
          have e10 : T[10]? = some (.pointer (some ⟨wr.heap.size, 0, none⟩)) := hfree 10 (fr 10 (by kernel_rfl))
          subst hJ
          refine zaj rfl ?_
          refine zao (E := fun w' => W.grownBy w' (none)) (Φ := PhiFo b2 o2 M cB k s0 x0 y0 s1 s4 X1 X3 Y1 Y3 s2 s3 s5 s6 x1 X2 x2 X4 y1 Y2 y2 Y4 2) fun K hK => ?_
          clear hdep hfree hsz hops fr oq0 oq1 oq2 oq3 oq4 oq5 oq6 oq7 oq8
          go_simp
          exact hK (.agg #[.bool x0, .slice X1 x1 X2, .slice X3 x2 X4]) _ (zak _ _) rfl rfl
        | 3, _, hi, hXi, hP =>
          obtain rfl := Option.some.inj (oq3.symm.trans hi)
          have e1 : T[1]? = some (.slice (some ⟨b2, o2, none⟩) M cB) := hfree 1 (fr 1 (by kernel_rfl))
          subst hJ
          refine zaj rfl ?_
          refine zao (E := fun w' => W.grownBy w' (none)) (Φ := PhiFo b2 o2 M cB k s0 x0 y0 s1 s4 X1 X3 Y1 Y3 s2 s3 s5 s6 x1 X2 x2 X4 y1 Y2 y2 Y4 3) fun K hK => ?_
          clear hdep hfree hsz hops fr oq0 oq1 oq2 oq3 oq4 oq5 oq6 oq7 oq8
          go_simp
          exact hK (.slice (some ⟨b2, o2, none⟩) M cB) _ (zak _ _) rfl rfl
        | 4, _, hi, hXi, hP =>
          obtain rfl := Option.some.inj (oq4.symm.trans hi)
          have e9 : T[9]? = some (.int .i64 (k : Int)) := hfree 9 (fr 9 (by kernel_rfl))
          subst hJ
          refine zaj rfl ?_
          refine zao (E := fun w' => W.grownBy w' (none)) (Φ := PhiFo b2 o2 M cB k s0 x0 y0 s1 s4 X1 X3 Y1 Y3 s2 s3 s5 s6 x1 X2 x2 X4 y1 Y2 y2 Y4 4) fun K hK => ?_
          clear hdep hfree hsz hops fr oq0 oq1 oq2 oq3 oq4 oq5 oq6 oq7 oq8
          go_simp
          exact hK (.int .i64 (k : Int)) _ (zak _ _) rfl rfl
        | 5, _, hi, hXi, hP =>
          obtain rfl := Option.some.inj (oq5.symm.trans hi)
          have d21 : (T.getD 21 undef) = .slice (some ⟨b2, o2, none⟩) M cB := (hdep 3 _ (odt (by kernel_rfl)) oq3).2
          have e21 := zan (by omega) d21
          clear d21
          have d22 : (T.getD 22 undef) = .int .i64 (k : Int) := (hdep 4 _ (odt (by kernel_rfl)) oq4).2
          have e22 := zan (by omega) d22
          clear d22
          subst hJ
          refine zaj rfl ?_
          refine zao (E := fun w' => W.grownBy w' (none)) (Φ := PhiFo b2 o2 M cB k s0 x0 y0 s1 s4 X1 X3 Y1 Y3 s2 s3 s5 s6 x1 X2 x2 X4 y1 Y2 y2 Y4 5) fun K hK => ?_
          clear hdep hfree hsz hops fr oq0 oq1 oq2 oq3 oq4 oq5 oq6 oq7 oq8
          go_simp
          exact hK (.pointer (some ⟨b2, (o2 + k * 3), none⟩)) _ (zak _ _) rfl rfl
        | 6, _, hi, hXi, hP =>
          obtain rfl := Option.some.inj (oq6.symm.trans hi)
          have d23 : (T.getD 23 undef) = .pointer (some ⟨b2, (o2 + k * 3), none⟩) := (hdep 5 _ (odt (by kernel_rfl)) oq5).2
          have e23 := zan (by omega) d23
          clear d23
          subst hJ
          refine zaj rfl ?_
          refine zao (E := fun w' => W.grownBy w' (none)) (Φ := PhiFo b2 o2 M cB k s0 x0 y0 s1 s4 X1 X3 Y1 Y3 s2 s3 s5 s6 x1 X2 x2 X4 y1 Y2 y2 Y4 6) fun K hK => ?_
          clear hdep hfree hsz hops fr oq0 oq1 oq2 oq3 oq4 oq5 oq6 oq7 oq8
          go_simp
          exact hK (.agg #[.bool y0, .slice Y1 y1 Y2, .slice Y3 y2 Y4]) _ (zak _ _) rfl rfl
        | i + 7, hin, hi, hXi, hP => exact absurd hin (by omega)
      case fin =>
        intro a W X hsz hdf hJ hfree hall
        obtain ⟨⟨l⟩, df⟩ := a
        replace hsz : l.length = 28 := hsz
        obtain ⟨fs, rfl⟩ := open28 hsz
        obtain rfl : df = [] := hdf
        have bs0 : fs 0 = .slice (some ⟨b1, o1, none⟩) M cA := Option.some.inj (hfree 0 (fr 0 (by kernel_rfl)))
        have bs1 : fs 1 = .slice (some ⟨b2, o2, none⟩) M cB := Option.some.inj (hfree 1 (fr 1 (by kernel_rfl)))
        have bs2 : fs 2 = .agg #[.bool z0, .slice Z1 z1 Z2, .slice Z3 z2 Z4] := Option.some.inj (hfree 2 (fr 2 (by kernel_rfl)))
        have bs3 : fs 3 = .func (.func 111) #[] #[] := Option.some.inj (hfree 3 (fr 3 (by kernel_rfl)))
        have bs4 : fs 4 = undef := Option.some.inj (hfree 4 (fr 4 (by kernel_rfl)))
        have bs5 : fs 5 = undef := Option.some.inj (hfree 5 (fr 5 (by kernel_rfl)))
        have bs6 : fs 6 = .pointer (some ⟨w.heap.size, 0, none⟩) := Option.some.inj (hfree 6 (fr 6 (by kernel_rfl)))
        have bs7 : fs 7 = undef := Option.some.inj (hfree 7 (fr 7 (by kernel_rfl)))
        have bs8 : fs 8 = .pointer (some ⟨(w.heap.size + 1), 0, none⟩) := Option.some.inj (hfree 8 (fr 8 (by kernel_rfl)))
        have bs9 : fs 9 = .int .i64 (k : Int) := Option.some.inj (hfree 9 (fr 9 (by kernel_rfl)))
        have bs10 : fs 10 = .pointer (some ⟨wr.heap.size, 0, none⟩) := Option.some.inj (hfree 10 (fr 10 (by kernel_rfl)))
        have bs11 : fs 11 = .slice (some ⟨b1, o1, none⟩) M cA := Option.some.inj (hfree 11 (fr 11 (by kernel_rfl)))
        have bs12 : fs 12 = .int .i64 (M : Int) := Option.some.inj (hfree 12 (fr 12 (by kernel_rfl)))
        have bs13 : fs 13 = .int .i64 (k : Int) := Option.some.inj (hfree 13 (fr 13 (by kernel_rfl)))
        have bs27 : fs 27 = undef := Option.some.inj (hfree 27 (fr 27 (by kernel_rfl)))
        have x18 : X 0 = some (fs 18) := (hall 0 _ (by omega) oq0).1
        have q18 : (fs 18) = .func (.func 111) #[] #[] := (hall 0 _ (by omega) oq0).2
        clear x18
        have x19 : X 1 = some (fs 19) := (hall 1 _ (by omega) oq1).1
        have q19 : (fs 19) = .agg #[.bool s0, .slice s1 s2 s3, .slice s4 s5 s6] := (hall 1 _ (by omega) oq1).2
        clear x19
        have x20 : X 2 = some (fs 20) := (hall 2 _ (by omega) oq2).1
        have q20 : (fs 20) = .agg #[.bool x0, .slice X1 x1 X2, .slice X3 x2 X4] := (hall 2 _ (by omega) oq2).2
        clear x20
        have x24 : X 6 = some (fs 24) := (hall 6 _ (by omega) oq6).1
        have q24 : (fs 24) = .agg #[.bool y0, .slice Y1 y1 Y2, .slice Y3 y2 Y4] := (hall 6 _ (by omega) oq6).2
        clear x24
        clear hall hfree hsz
        rw [hops]
        clear hops fr oq0 oq1 oq2 oq3 oq4 oq5 oq6 oq7 oq8
        rw [bs0, bs1, bs2, bs3, bs4, bs5, bs6, bs7, bs8, bs9, bs10, bs11, bs12, bs13, bs27, q18, q19, q20, q24]
        clear bs0 bs1 bs2 bs3 bs4 bs5 bs6 bs7 bs8 bs9 bs10 bs11 bs12 bs13 bs27 q18 q19 q20 q24
        subst hJ
        clear m0 m1 m2 n0 n1 n2 d0 d1 d2
        show wpList _ _ _ [_, _] _ _
        go_wp2_with fail
        have hsq := IsQ.stb.to Hs.out (T := Old wr) (zay fun b hb => by rcases hb with hb | hb; have := HS0.out b hb; have := HBw.out.size; show b < _; omega; exact hb.2)
        have Hpx := Hsa.out x (List.mem_of_getElem? Hx.out)
        have Hpy := Hsb.out y (List.mem_of_getElem? Hy.out)
        refine (dot1_q (IsQ.stb.next hsq BD.out) (IsQ.stb.next Qx.out BD.out) (IsQ.stb.next Qy.out BD.out) (Bru.next HB.out Bwd.out) (Hz40.out k) (Hpx.le (by omega)) (Hpy.le (by omega)) ((Hpx.mul Hpy).le (by omega))).mono ?_
        rintro e w3 ⟨⟨v3, rfl, hv3⟩, hb3⟩
        obtain ⟨S0', S1', S2', S3', S4', rfl, _, _, _⟩ := zam hv3
        have hend : sumP ((a.zip b).take k) + x * y = sumP ((a.zip b).take (k + 1)) := by
          rw [zda (x := (x, y)) (List.getElem?_zip_eq_some.2 ⟨Hx.out, Hy.out⟩), sumP_snoc]
        rw [hend] at hv3
        obtain ⟨l1, hl1⟩ : ∃ z, z = (lim (sumP ((a.zip b).take (k + 1))).num.natAbs).length := ⟨_, rfl⟩
        obtain ⟨l2, hl2⟩ : ∃ z, z = (lim (sumP ((a.zip b).take (k + 1))).den).length := ⟨_, rfl⟩
        rw [hend, ← hl1, ← hl2]
        rw [← hl1, ← hl2] at hv3
        have V3 := Lib.hid hv3
        have R3 := Lib.hid (RSd.out.next hb3)
        have Z3 := Lib.hid (RZd.out.next hb3)
        have B3 := Lib.hid (zaa Bwd.out hb3)
        have hs3 := hb3.size
        obtain ⟨m0, m1, m2⟩ := zad R3.out
        obtain ⟨f0, f1, f2⟩ := zaq R3.out
        have hwz := HBw.out.size
        have hszr := hsz.out
        clear hv3 hb3 hsq hend hl1 hl2
        go_wp2_with fail
        clear m0 m1 m2 f0 f1 f2
        go_roundw
        case rel =>
          refine ⟨k + 1, _, _, _, _, _, _, _, hlt, by go_num, zdb B3.out (Nat.le_refl _) _ _ _, R3.out.put3 _ _ _, ?_, IsQ.stb.to V3.out (zcu fun z hz => ⟨by have := hz.1; omega, .inr ⟨by have := hz.1; omega, by rw [zcz]; exact hz.2⟩⟩), ?_⟩
          · exact (heap_put3' _ _ _ _ _ (by omega)).trans Z3.out
          · rw [Hid, zcz]; omega
        case measure => simp [intOf]; omega
    · obtain rfl : k = M := by omega
      have hlt : ¬ k < k := by omega
      obtain ⟨m0, m1, m2⟩ := zad RSw.out
      obtain ⟨n0, n1, n2⟩ := zad RZw.out
      obtain ⟨f0, f1, f2⟩ := zaq RZw.out
      go_wp2_with fail
      refine zbc Tryd.results110 rfl rfl (Row.put3 RZw.out _ _ _) ⟨⟨_, rfl, ?_⟩, zdb HBw.out (by omega) _ _ _⟩
      have e : dotQ a b = sumP ((a.zip b).take k) := by
        rw [List.take_of_length_le (by rw [List.length_zip, Hla.out, Hlb.out]; omega)]; rfl
      rw [e]
      refine IsQ.stb.to Hs.out (zcu fun z hz => ⟨?_, ?_⟩)
      · rcases hz with h | h
        · have := HS0.out z h; omega
        · omega
      · rcases hz with h | h
        · exact .inl h
        · exact .inr ⟨by omega, by rw [zcz]; exact h.2⟩
def nilRaw : Raw := ⟨false, [], []⟩
theorem isR_nil {w : World} {S : Nat → Prop} : IsR w S (.agg #[.bool false, .slice none 0 0, .slice none 0 0]) nilRaw := by
  refine ⟨none, 0, none, 0, rfl, ?_, ?_⟩ <;> exact ⟨none, 0, rfl, Nat.le_refl _, by unfold maxLen; omega, SVS.nil⟩
def gapR (d : Rat) : Raw := if fitsQ d then raw d else nilRaw
def gapE (d : Rat) : Int := if fitsQ d then 0 else 5
theorem results_rat2 {fn : Func} {slot t : Tmp} {tmps : Array Value} {w : World} {g : Nat} {x y z : Value} (hr : fn.results = #[.cell slot 50, .tmp t]) (ha : tmps.getD slot undef = .pointer (some ⟨g, 0, none⟩))
    (h : Row w g 50 [x, y, z]) : (results fn tmps).run Tryd.prog w = .ok (.tuple #[.agg #[x, y, z], tmps.getD t undef]) w := by
  obtain ⟨h0, h1, h2⟩ := zad h
  have ha' : tmps[slot]?.getD undef = .pointer (some ⟨g, 0, none⟩) := by simpa using ha
  simp [results, hr, ha', asAddr, go_sem, h0, h1, h2]
theorem gap_fits {q : Rat} (h : Sz q 1024) : gapR q = raw q ∧ gapE q = 0 := by
  unfold gapR gapE
  rw [if_pos (fitsQ_true.2 h), if_pos (fitsQ_true.2 h)]
  exact ⟨rfl, rfl⟩
set_option maxHeartbeats 1000000 in
theorem vdot_q {w : World} {va vb : Value} {a b : List Rat} {M : Nat} (ha : IsV w (Old w) va (rawV a)) (hb : IsV w (Old w) vb (rawV b)) (hB : Bru w) (hla : a.length = M) (hlb : b.length = M) (hM : M ≤ 40) (sa : ∀ q ∈ a, Sz q 1024) (sb : ∀ q ∈ b, Sz q 1024) :
    Calls Tryd.prog 76 #[va, vb] w (RetQ w (dotQ a b)) := by
  have HA := Lib.hid ha
  have HV := Lib.hid hb
  have HB := Lib.hid hB
  obtain ⟨w0, hw0, hb0, rZ, Hz⟩ := zcf w #[.bool false, .slice none 0 0, .slice none 0 0] 50
  have RZ := Lib.hid rZ
  have HB0 := Lib.hid hb0
  clear rZ hb0 ha hb hB
  go_enter Tryd.func76, Tryd.ntmps76
  go_wp2_with fail
  clear hw0
  refine (zero_q _).mono ?_
  rintro e w1 ⟨⟨v1, rfl, hv1⟩, hb1⟩
  have V1 := Lib.hid hv1
  have HB1 := Lib.hid (zaa HB0.out hb1)
  have RZ1 := Lib.hid (RZ.out.next hb1)
  clear hv1 hb1
  go_wp2_with fail
  refine (fold_q (IsV.stb.to HA.out (zba HB1.out)) (IsV.stb.to HV.out (zba HB1.out)) V1.out (fun b h => h.2) (Bru.next HB.out HB1.out) hla hlb hM sa sb).mono ?_
  rintro e w2 ⟨⟨v2, rfl, hv2⟩, hb2⟩
  have HB2 := Lib.hid (zaa HB1.out hb2)
  have RZ2 := Lib.hid (RZ1.out.next hb2)
  obtain ⟨s, P, k, O, l, rfl, _, _, _⟩ := zam hv2
  have V2 := Lib.hid hv2
  obtain ⟨c0, c1, c2⟩ := zad RZ2.out
  obtain ⟨f0, f1, f2⟩ := zaq RZ2.out
  have hz := Hz.out
  have hs2 := hb2.size
  have hs1 := RZ1.out.lt
  clear hv2 hb2
  go_wp2_with fail
  refine zbc Tryd.results76 rfl rfl (Row.put3 RZ2.out _ _ _) (zfm (lo := w.heap.size + 1) (IsQ.stb.to V2.out (zay fun b h => ?_)) HB2.out (Nat.le_refl _) (by omega))
  rcases h with h | h
  · exact ⟨by have := h.1; omega, by have := h.2; omega⟩
  · exact ⟨by have := h.1; omega, h.2⟩
set_option maxHeartbeats 2000000 in
theorem vDot_good {w : World} {va vb : Value} {a b : List Rat} {M : Nat} {d : Rat} (ha : IsV w (Old w) va (rawV a)) (hb : IsV w (Old w) vb (rawV b)) (hB : Bru w) (h0 : bothE (rawV a) (rawV b) = 0) (hla : a.length = M) (hlb : b.length = M) (hM : M ≤ 40) (sa : ∀ q ∈ a, Sz q 1024) (sb : ∀ q ∈ b, Sz q 1024) (hd : d = dotQ a b) :
    Calls Tryd.prog 38 #[va, vb] w fun e w' => (∃ v, e = .returned (.tuple #[v, .int .i64 (gapE d)]) ∧ IsR w' (Old w') v (gapR d)) ∧ Below w.heap.size w w' := by
  have HA := Lib.hid ha
  have HV := Lib.hid hb
  have HB := Lib.hid hB
  have Hd := Lib.hid hd
  obtain ⟨w0, hw0, hb0, rZ, Hz⟩ := zcf w #[.bool false, .slice none 0 0, .slice none 0 0] 50
  have RZ := Lib.hid rZ
  have HB0 := Lib.hid hb0
  have HE := Lib.hid h0
  obtain ⟨fq, hfq⟩ : ∃ f, f = fitsQ d := ⟨_, rfl⟩
  have Hfq := Lib.hid hfq
  clear rZ hb0 ha hb hB h0 hfq hd
  go_enter Tryd.func38, Tryd.ntmps38
  go_wp2_with fail
  clear hw0
  refine (vboth_l (IsV.stb.to HA.out (zba HB0.out)) (IsV.stb.to HV.out (zba HB0.out)) (Bru.next HB.out HB0.out)).mono ?_
  rw [HE.out]
  rintro e w1 ⟨rfl, hb1⟩
  have HB1 := Lib.hid (zaa HB0.out hb1)
  have RZ1 := Lib.hid (RZ.out.next hb1)
  clear hb1
  go_wp2_with fail
  refine (vdot_q (IsV.stb.to HA.out (zba HB1.out)) (IsV.stb.to HV.out (zba HB1.out)) (Bru.next HB.out HB1.out) hla hlb hM sa sb).mono ?_
  rw [← Hd.out]
  rintro e w2 ⟨⟨v2, rfl, hv2⟩, hb2⟩
  obtain ⟨s, P, k, O, l, rfl, _, _, _⟩ := zam hv2
  obtain ⟨l1, hl1⟩ : ∃ z, z = (lim d.num.natAbs).length := ⟨_, rfl⟩
  obtain ⟨l2, hl2⟩ : ∃ z, z = (lim d.den).length := ⟨_, rfl⟩
  rw [← hl1, ← hl2] at hv2 ⊢
  have V2 := Lib.hid hv2
  have HB2 := Lib.hid (zaa HB1.out hb2)
  have RZ2 := Lib.hid (RZ1.out.next hb2)
  have hs2 := hb2.size
  have hs1 := RZ1.out.lt
  clear hv2 hb2 hl1 hl2
  obtain ⟨wx, hwx, hbx, rE, Hzx⟩ := zcf w2 #[.bool s, .slice P l1 k, .slice O l2 l] 50
  have RE := Lib.hid rE
  have HBX := Lib.hid (zaa HB2.out hbx)
  have RZX := Lib.hid (RZ2.out.next hbx)
  have VX := Lib.hid (IsQ.stb.to V2.out (T := New w1.heap.size w2) (fun b hb => ⟨hb, fun o => hbx.cell (p := ⟨b, o, none⟩) hb.2⟩))
  obtain ⟨g0, g1, g2⟩ := zad rE
  have hzx := Hzx.out
  clear rE hbx
  cases fq with
  | false =>
    have Hr : Hid (gapE d = 5 ∧ gapR d = nilRaw) := by unfold Hid gapE gapR; rw [← Hfq.out]; exact ⟨rfl, rfl⟩
    go_wp2_with fail
    refine (fits_q (IsQ.stb.to VX.out (zay fun b h => by have := h.2; show b < _; omega))).mono ?_
    rw [← Hfq.out]
    rintro e w6 ⟨rfl, hb6⟩
    have Hb6 := Lib.hid (zaa HBX.out hb6)
    have RZ6 := Lib.hid (RZX.out.next hb6)
    clear g0 g1 g2
    obtain ⟨d0, d1, d2⟩ := zad RZ6.out
    obtain ⟨f0, f1, f2⟩ := zaq RZ6.out
    clear hb6
    go_wp2_with fail
    refine bodyPost_ret (results_rat2 rfl rfl (Row.put3 RZ6.out _ _ _)) rfl ?_
    exact ⟨⟨_, by rw [Hr.out.1]; rfl, by rw [Hr.out.2]; exact isR_nil⟩, zdb Hb6.out (by omega) _ _ _⟩
  | true =>
    have Hr : Hid (gapE d = 0 ∧ gapR d = raw d) := by unfold Hid gapE gapR; rw [← Hfq.out]; exact ⟨rfl, rfl⟩
    go_wp2_with fail
    refine (fits_q (IsQ.stb.to VX.out (zay fun b h => by have := h.2; show b < _; omega))).mono ?_
    rw [← Hfq.out]
    rintro e w6 ⟨rfl, hb6⟩
    have Hb6 := Lib.hid (zaa HBX.out hb6)
    have RZ6 := Lib.hid (RZX.out.next hb6)
    have V6 := Lib.hid (IsQ.stb.to VX.out (T := New w1.heap.size w6) (fun b hb => ⟨⟨hb.1, by have := hb.2; have := hb6.size; omega⟩, fun o => hb6.cell (p := ⟨b, o, none⟩) (show b < wx.heap.size by have := hb.2; omega)⟩))
    clear g0 g1 g2
    obtain ⟨h0, h1, h2⟩ := zad (RE.out.next hb6)
    obtain ⟨d0, d1, d2⟩ := zad RZ6.out
    obtain ⟨f0, f1, f2⟩ := zaq RZ6.out
    have hsz := hb6.size
    clear hb6
    go_wp2_with fail
    refine bodyPost_ret (results_rat2 rfl rfl (Row.put3 RZ6.out _ _ _)) rfl ?_
    exact ⟨⟨_, by rw [Hr.out.1]; rfl, by rw [Hr.out.2]; exact IsQ.stb.to V6.out (zcu fun b hb => ⟨by have := hb.1; omega, by show b < _; rw [zcz]; exact hb.2⟩)⟩, zdb Hb6.out (by omega) _ _ _⟩
theorem zeq {m : List (List Rat)} {c : Nat} (hl : m.length ≤ 40) (hc : c ≤ 40) (hrow : ∀ r ∈ m, r.length = c) (hs : ∀ r ∈ m, ∀ q ∈ r, Sz q 1024) : chkM (rawM m) = 0 := by
  have hhead : ∀ row ∈ rawM m, row.length = ((rawM m).headD []).length := by
    intro row hr
    obtain ⟨r, hr', rfl⟩ := List.mem_map.1 hr
    cases m with
    | nil => cases hr'
    | cons a t =>
      simp only [rawM, List.map_cons, List.headD_cons, rawV, List.length_map]
      rw [hrow r hr', hrow a (by simp)]
  unfold chkM
  rw [if_neg (by simp [rawM]; omega)]
  refine fstE_all fun j hj => ?_
  rw [List.length_map] at hj
  rw [List.getD_eq_getElem?_getD, List.getElem?_map, List.getElem?_eq_getElem hj]
  have hmem := List.getElem_mem hj
  simp only [Option.map_some, Option.getD_some]
  rw [if_neg (by rw [hhead _ hmem]; simp)]
  obtain ⟨r, hr', e⟩ := List.mem_map.1 hmem
  rw [← e]
  exact chkV_raw (by rw [hrow r hr']; exact hc) (hs r hr')
theorem lim_little {n : Nat} (h : n ≤ 1000000) : (lim n).length ≤ 1 := lim_len_le.2 (by unfold pw; omega)
theorem sz_little {z : Int} (h : z.natAbs ≤ 1000000) {k : Nat} (hk : 1 ≤ k) : Sz ((z : Int) : Rat) k := ⟨Nat.le_trans (lim_little h) hk, Nat.le_trans (lim_little (by show (1 : Nat) ≤ _; omega)) hk⟩
def littleS (n m : Nat) (s : RS) : Bool := (List.range n).all (fun a => (List.range m).all fun b => decide ((s.A a b).natAbs ≤ 1000000)) && decide (s.d ≤ 1000000 ∧ 0 < s.d)
theorem bnd_little {n m : Nat} {s : RS} (h : littleS n m s = true) : BndS n m s := by
  unfold littleS at h
  rw [Bool.and_eq_true, List.all_eq_true, decide_eq_true_iff] at h
  obtain ⟨h1, h2, h3⟩ := h
  refine ⟨fun a b ha hb => ?_, Nat.le_trans (lim_little h2) (by omega), h3⟩
  have := List.all_eq_true.1 (h1 a (List.mem_range.2 ha)) b (List.mem_range.2 hb)
  exact sz_little (of_decide_eq_true this) (by omega)
theorem over_fits {d : Nat} {l : List Int} (h : ∀ x ∈ l, x.natAbs ≤ 1000000) (h1 : d ≤ 1000000) (h0 : d ≠ 0) : (zbz d l).all fitsQ = true :=
  List.all_eq_true.2 fun q hq => fitsQ_true.2 ((over_sz h h1 h0 q hq).le (by omega))
theorem over_sz9 {d : Nat} {l : List Int} (h : ∀ x ∈ l, x.natAbs ≤ 1000000) (h1 : d ≤ 1000000) (h0 : d ≠ 0) : ∀ q ∈ zbz d l, Sz q 1024 := fun q hq => (over_sz h h1 h0 q hq).le (by omega)
theorem aQ_row : ∀ r ∈ aQ, r.length = 2 := by decide
theorem aQ_sz : ∀ r ∈ aQ, ∀ q ∈ r, Sz q 1024 := by
  intro r hr
  simp only [aQ, List.mem_cons, List.not_mem_nil, or_false] at hr
  rcases hr with rfl | rfl
  · exact over_sz9 (by decide) (by decide) (by decide)
  · exact over_sz9 (by decide) (by decide) (by decide)
theorem aQ_chk : chkM (rawM aQ) = 0 := zeq (c := 2) (by decide) (by decide) aQ_row aQ_sz
theorem over_chk {d : Nat} {l : List Int} (hl : l.length ≤ 40) (h : ∀ x ∈ l, x.natAbs ≤ 1000000) (h1 : d ≤ 1000000) (h0 : d ≠ 0) : chkV (rawV (zbz d l)) = 0 := chkV_raw (by rw [overQ_len]; exact hl) (over_sz9 h h1 h0)
def exS : RS := runK 2 3 (zbj (zdr aQ (zbz 1 [5, 6]) 2)) 2
def exI : RS := runK 2 4 (zbj (zcg aQ 2 2)) 2
theorem exS_bnd : ∀ k, k ≤ 2 → littleS 2 3 (runK 2 3 (zbj (zdr aQ (zbz 1 [5, 6]) 2)) k) = true := by decide +kernel
theorem exI_bnd : ∀ k, k ≤ 2 → littleS 2 4 (runK 2 4 (zbj (zcg aQ 2 2)) k) = true := by decide +kernel
theorem exS_len : exS.piv.length = 2 := by decide +kernel
theorem exI_len : exI.piv.length = 2 := by decide +kernel
theorem exS_sol : zdq exS 2 exS.piv.length = zbz 2 [-8, 9] := by decide +kernel
theorem exI_inv : invQ 2 exI = [zbz 1 [-2, 1], zbz 2 [3, -1]] := by decide +kernel
theorem ex_dot : zdj 11 1 = dotQ (zbz 1 [1, 2]) (zbz 1 [3, 4]) := by decide +kernel
theorem ex11 : gapR (zdj 11 1) = raw (zdj 11 1) ∧ gapE (zdj 11 1) = 0 := by
  have h : fitsQ (zdj 11 1) = true := fitsQ_true.2 ((quot_sz (by decide) (by decide) (by decide)).le (by omega))
  unfold gapR gapE
  rw [h]
  exact ⟨rfl, rfl⟩
theorem exS_none : ¬ noneS exS 2 2 := by
  rintro ⟨i, h1, h2, _⟩
  rw [exS_len] at h1
  omega
theorem exV_bnd (v : Value) : bndV v (zbz 2 [-8, 9]) = .returned (.tuple #[v, .int .i64 0]) := by
  unfold bndV
  rw [over_fits (by decide) (by decide) (by decide)]
  rfl
theorem exM_bnd (v : Value) : bndM v [zbz 1 [-2, 1], zbz 2 [3, -1]] = .returned (.tuple #[v, .int .i64 0]) := by
  unfold bndM
  simp only [List.all_cons, List.all_nil, over_fits (d := 1) (l := [-2, 1]) (by decide) (by decide) (by decide), over_fits (d := 2) (l := [3, -1]) (by decide) (by decide) (by decide)]
  rfl
theorem asolve_l {w : World} {v vb : Value} (h : IsM w (Old w) v (rawM aQ)) (hv : IsV w (Old w) vb (rawV (zbz 1 [5, 6]))) (hB : Bru w) :
    Calls Tryd.prog 35 #[v, vb] w fun e w' => (∃ v', e = .returned (.tuple #[v', .int .i64 0]) ∧ IsV w' (Old w') v' (rawV (zbz 2 [-8, 9]))) ∧ Below w.heap.size w w' := by
  refine (solve_l (s := exS) (n := 2) (m := 2) h hv hB rfl rfl aQ_row aQ_sz (over_sz9 (by decide) (by decide) (by decide)) (by omega) (by omega) (by omega) (by omega) aQ_chk (over_chk (by decide) (by decide) (by decide) (by decide)) (fun k hk => bnd_little (exS_bnd k hk)) rfl).mono ?_
  rintro e w' ⟨⟨_, h2⟩, hb⟩
  obtain ⟨v', he, hv'⟩ := h2 exS_none
  rw [exS_sol] at he hv'
  rw [exV_bnd] at he
  exact ⟨⟨v', he, hv'⟩, hb⟩
theorem ainverse_l {w : World} {v : Value} (h : IsM w (Old w) v (rawM aQ)) (hB : Bru w) :
    Calls Tryd.prog 39 #[v] w fun e w' => (∃ v', e = .returned (.tuple #[v', .int .i64 0]) ∧ IsM w' (Old w') v' (rawM [zbz 1 [-2, 1], zbz 2 [3, -1]])) ∧ Below w.heap.size w w' := by
  refine (inverse_l (s := exI) (n := 2) h hB rfl aQ_row aQ_sz (by omega) (by omega) aQ_chk (fun k hk => bnd_little (exI_bnd k hk)) rfl).mono ?_
  rintro e w' ⟨⟨_, h2⟩, hb⟩
  obtain ⟨v', he, hv'⟩ := h2 (Nat.le_of_eq exI_len.symm)
  rw [exI_inv] at he hv'
  rw [exM_bnd] at he
  exact ⟨⟨v', he, hv'⟩, hb⟩
theorem adot_l {w : World} {va vb : Value} (ha : IsV w (Old w) va (rawV (zbz 1 [1, 2]))) (hb : IsV w (Old w) vb (rawV (zbz 1 [3, 4]))) (hB : Bru w) :
    Calls Tryd.prog 38 #[va, vb] w fun e w' => (∃ v, e = .returned (.tuple #[v, .int .i64 0]) ∧ IsR w' (Old w') v (raw (zdj 11 1))) ∧ Below w.heap.size w w' := by
  have h0 : bothE (rawV (zbz 1 [1, 2])) (rawV (zbz 1 [3, 4])) = 0 := by
    unfold bothE
    rw [over_chk (by decide) (by decide) (by decide) (by decide), over_chk (by decide) (by decide) (by decide) (by decide)]
    rfl
  have hc := vDot_good (d := zdj 11 1) ha hb hB h0 rfl rfl (by decide) (over_sz9 (by decide) (by decide) (by decide)) (over_sz9 (by decide) (by decide) (by decide)) ex_dot
  rw [ex11.1, ex11.2] at hc
  exact hc
def sameR (a b : Raw) : Bool := decide (a.neg = b.neg) && decide (a.num = b.num) && decide (a.den = b.den)
theorem sameR_iff {a b : Raw} : sameR a b = true ↔ a = b := by
  unfold sameR
  rw [Bool.and_eq_true, Bool.and_eq_true, decide_eq_true_eq, decide_eq_true_eq, decide_eq_true_eq]
  obtain ⟨x, y, z⟩ := a
  obtain ⟨u, v, t⟩ := b
  simp [and_assoc]
theorem sameR_eq {a b : Raw} : sameR a b = decide (a = b) := by
  rw [Bool.eq_iff_iff, sameR_iff, decide_eq_true_eq]
theorem isK_l {k : IntKind} {w : World} {v : Value} {l : List Nat} (h : IsK k w (Old w) v l) : IsL k w 0 w.heap.size v l := h.isL fun b hb => ⟨Nat.zero_le _, hb⟩
set_option maxRecDepth 100000 in
set_option maxHeartbeats 1000000 in
theorem same_r {w : World} {va vb : Value} {a b : Raw} (ha : IsR w (Old w) va a) (hb : IsR w (Old w) vb b) :
    Calls Tryd.prog 20 #[va, vb] w fun e w' => e = .returned (.bool (decide (a = b))) ∧ Below w.heap.size w w' := by
  rw [← sameR_eq]
  obtain ⟨A1, c1, A2, c2, rfl, hA1, hA2⟩ := ha
  obtain ⟨B1, d1, B2, d2, rfl, hB1, hB2⟩ := hb
  have HA1 := Lib.hid hA1
  have HA2 := Lib.hid hA2
  have HB1 := Lib.hid hB1
  have HB2 := Lib.hid hB2
  unfold sameR
  obtain ⟨b1, hb1⟩ : ∃ x, x = decide (a.neg = b.neg) := ⟨_, rfl⟩
  obtain ⟨b2, hb2⟩ : ∃ x, x = decide (a.num = b.num) := ⟨_, rfl⟩
  obtain ⟨b3, hb3⟩ : ∃ x, x = decide (a.den = b.den) := ⟨_, rfl⟩
  have p1 : (a.neg == b.neg) = b1 := by rw [hb1]; cases a.neg <;> cases b.neg <;> rfl
  rw [← hb1, ← hb2, ← hb3]
  have Hb2 := Lib.hid hb2
  have Hb3 := Lib.hid hb3
  clear hb1 hb2 hb3 hA1 hA2 hB1 hB2
  obtain ⟨w0, hw0, hb0, rA, rB, Hz⟩ := zfp w #[.bool a.neg, .slice A1 a.num.length c1, .slice A2 a.den.length c2] #[.bool b.neg, .slice B1 b.num.length d1, .slice B2 b.den.length d2] 50 50
  have HB0 := Lib.hid hb0
  obtain ⟨x0, x1, x2⟩ := zad rA
  obtain ⟨y0, y1, y2⟩ := zad rB
  clear hb0 rA rB
  cases b1 with
  | false =>
    go_enter Tryd.func20, Tryd.ntmps20
    go_wp2_with fail
    go_ret
    exact ⟨rfl, HB0.out⟩
  | true =>
    cases b2 with
    | false =>
      go_enter Tryd.func20, Tryd.ntmps20
      go_wp2_with fail
      clear hw0
      refine (alike_l (isK_l (IsK.stb.to HA1.out (zba HB0.out))) (isK_l (IsK.stb.to HB1.out (zba HB0.out)))).mono ?_
      rw [← Hb2.out]
      rintro e w1 ⟨rfl, hd⟩
      have hb := hd.below w0.heap.size
      have HB1' := Lib.hid (zaa HB0.out hb)
      go_wp2_with fail
      go_ret
      exact ⟨rfl, HB1'.out⟩
    | true =>
      cases b3
      all_goals
        go_enter Tryd.func20, Tryd.ntmps20
        go_wp2_with fail
        clear hw0
        refine (alike_l (isK_l (IsK.stb.to HA1.out (zba HB0.out))) (isK_l (IsK.stb.to HB1.out (zba HB0.out)))).mono ?_
        rw [← Hb2.out]
        rintro e w1 ⟨rfl, hd⟩
        have hb := hd.below w0.heap.size
        have HB1' := Lib.hid (zaa HB0.out hb)
        replace x2 := zac hb x2
        replace y2 := zac hb y2
        clear hb hd
        go_wp2_with fail
        refine (alike_l (isK_l (IsK.stb.to HA2.out (zba HB1'.out))) (isK_l (IsK.stb.to HB2.out (zba HB1'.out)))).mono ?_
        rw [← Hb3.out]
        rintro e w2 ⟨rfl, hd⟩
        have hb := hd.below w1.heap.size
        have HB2' := Lib.hid (zaa HB1'.out hb)
        clear hb hd
        go_wp2_with fail
        go_ret
        exact ⟨rfl, HB2'.out⟩
theorem list_eq {α : Type} {a b : List α} (hl : a.length = b.length) (h : ∀ j, j < a.length → a[j]? = b[j]?) : a = b := by
  apply List.ext_getElem?
  intro j
  rcases Nat.lt_or_ge j a.length with h1 | h1
  · exact h j h1
  · rw [List.getElem?_eq_none h1, List.getElem?_eq_none (by omega)]
set_option maxRecDepth 100000 in
set_option maxHeartbeats 2000000 in
theorem same_v {w : World} {va vb : Value} {a b : List (Raw)} (ha : IsV w (Old w) va a) (hb : IsV w (Old w) vb b) :
    Calls Tryd.prog 36 #[va, vb] w fun e w' => e = .returned (.bool (decide (a = b))) ∧ Below w.heap.size w w' := by
  have HA := Lib.hid ha
  have HB := Lib.hid hb
  obtain ⟨A, cA, rfl, mA⟩ := zcm ha
  obtain ⟨B, cB, rfl, mB⟩ := zcm hb
  clear ha hb
  obtain ⟨la, hla⟩ : ∃ n, n = a.length := ⟨_, rfl⟩
  obtain ⟨lb, hlb⟩ : ∃ n, n = b.length := ⟨_, rfl⟩
  rw [← hla] at HA mA ⊢
  rw [← hlb] at HB mB ⊢
  have Hla := Lib.hid hla
  have Hlb := Lib.hid hlb
  clear hla hlb
  by_cases hl : la = lb
  case neg =>
    have b1 : ((la : Int) != (lb : Int)) = true := bne_iff_ne.2 (by omega)
    have Hr : Hid (decide (a = b) = false) := decide_eq_false (fun e => hl (by rw [Hla.out, Hlb.out, e]))
    clear hl
    go_enter Tryd.func36, Tryd.ntmps36
    go_wp2_with fail
    go_ret
    exact ⟨by show Ending.returned (.bool _) = _; rw [Hr.out], Below.refl _ _⟩
  subst hl
  have b1 : ((la : Int) != (la : Int)) = false := by simp
  go_enter Tryd.func36, Tryd.ntmps36
  go_wp2_with fail
  go_loopw [5] (fun i wr => ∃ k : Nat, k ≤ la ∧ i = .int .i64 (k : Int) ∧ Below w.heap.size w wr ∧ Hid (∀ j, j < k → a[j]? = b[j]?)) (fun i _ => la - (intOf i).toNat)
  case atStart => exact ⟨0, Nat.zero_le _, rfl, Below.refl _ _, fun j hj => by omega⟩
  case round =>
    obtain ⟨k, hk, rfl, hbw, hrel⟩ := hrel
    have Hbw := Lib.hid hbw
    have Hrel := Lib.hid hrel.out
    clear hrel
    rcases Nat.lt_or_ge k la with hlt | hge
    · obtain ⟨x, hx⟩ := some_at (l := a) (j := k) (by rw [← Hla.out]; exact hlt)
      obtain ⟨y, hy⟩ := some_at (l := b) (j := k) (by rw [← Hlb.out]; exact hlt)
      obtain ⟨b1', o1, P, kP, Q, kQ, rfl, hS1, helx, c0, c1, c2⟩ := zdn (IsV.stb.to HA.out (zba hbw)) hx
      obtain ⟨b2', o2, P', kP', Q', kQ', rfl, hS2, hely, d0, d1, d2⟩ := zdn (IsV.stb.to HB.out (zba hbw)) hy
      have Hx := Lib.hid hx
      have Hy := Lib.hid hy
      have QX := Lib.hid helx
      have QY := Lib.hid hely
      have cr := zbr
      have hk0 : (0 : Int) ≤ (k : Int) := by omega
      have hk1 : (k : Int) < (la : Int) := by omega
      obtain ⟨q, hq⟩ : ∃ q, q = decide (x = y) := ⟨_, rfl⟩
      have Hq := Lib.hid hq
      clear hx hy helx hely hbw hq
      cases q with
      | false =>
        go_wp2_with fail
        have HS : Hid (∀ W : World, Below wr.heap.size wr W → W.cell? ⟨b1', o1 + k * 3, none⟩ = some (.bool x.neg) ∧ W.cell? ⟨b1', o1 + k * 3 + 1, none⟩ = some (.slice P x.num.length kP) ∧ W.cell? ⟨b1', o1 + k * 3 + 2, none⟩ = some (.slice Q x.den.length kQ) ∧ W.cell? ⟨b2', o2 + k * 3, none⟩ = some (.bool y.neg) ∧ W.cell? ⟨b2', o2 + k * 3 + 1, none⟩ = some (.slice P' y.num.length kP') ∧ W.cell? ⟨b2', o2 + k * 3 + 2, none⟩ = some (.slice Q' y.den.length kQ')) := fun W hW => ⟨zac hW c0, zac hW c1, zac hW c2, zac hW d0, zac hW d1, zac hW d2⟩
        have D3 : Hid (∀ W : World, Below wr.heap.size wr W → Calls Tryd.prog 20 #[.agg #[.bool x.neg, .slice P x.num.length kP, .slice Q x.den.length kQ], .agg #[.bool y.neg, .slice P' y.num.length kP', .slice Q' y.den.length kQ']] W (fun e w' => e = .returned (.bool false) ∧ Below W.heap.size W w')) := fun W hW => by rw [Hq.out]; exact same_r (IsR.stb.next QX.out hW) (IsR.stb.next QY.out hW)
        go_region_held3 (fun w' => w'.cell? ⟨b1', o1 + k * 3, none⟩ = some (.bool x.neg) ∧ w'.cell? ⟨b1', o1 + k * 3 + 1, none⟩ = some (.slice P x.num.length kP) ∧ w'.cell? ⟨b1', o1 + k * 3 + 2, none⟩ = some (.slice Q x.den.length kQ) ∧ w'.cell? ⟨b2', o2 + k * 3, none⟩ = some (.bool y.neg) ∧ w'.cell? ⟨b2', o2 + k * 3 + 1, none⟩ = some (.slice P' y.num.length kP') ∧ w'.cell? ⟨b2', o2 + k * 3 + 2, none⟩ = some (.slice Q' y.den.length kQ'))
          (exact HS.out _ (by (repeat (first | exact Below.refl _ _ | assumption | refine zae ?_ _ | refine zaf ?_ | refine zag ?_ ?_ _ _ _ | refine zai ?_ (by omega) | refine zaa ?_ (by assumption))); (first | done | fail)))
          (first
            | (go_at_call 20; (with_reducible refine Calls.mono (D3.out _ (by (repeat (first | exact Below.refl _ _ | assumption | refine zae ?_ _ | refine zaf ?_ | refine zag ?_ ?_ _ _ _ | refine zai ?_ (by omega) | refine zaa ?_ (by assumption))); (first | done | fail))) ?_); rintro e w3 ⟨rfl, hb3⟩))
        have Hb3 := Lib.hid (zaa Hbw.out (show Below wr.heap.size wr w3 from (by (repeat (first | exact Below.refl _ _ | assumption | refine zae ?_ _ | refine zaf ?_ | refine zag ?_ ?_ _ _ _ | refine zai ?_ (by omega) | refine zaa ?_ (by assumption))); (first | done | fail))))
        clear hb3 HS D3
        go_wp2_with fail
        have Hr : Hid (decide (a = b) = false) := decide_eq_false (fun e => by have h1 := Hx.out; rw [e, Hy.out] at h1; cases h1; have h2 := Hq.out; simp at h2)
        go_ret
        exact ⟨by show Ending.returned (.bool _) = _; rw [Hr.out], Hb3.out⟩
      | true =>
        go_wp2_with fail
        have HS : Hid (∀ W : World, Below wr.heap.size wr W → W.cell? ⟨b1', o1 + k * 3, none⟩ = some (.bool x.neg) ∧ W.cell? ⟨b1', o1 + k * 3 + 1, none⟩ = some (.slice P x.num.length kP) ∧ W.cell? ⟨b1', o1 + k * 3 + 2, none⟩ = some (.slice Q x.den.length kQ) ∧ W.cell? ⟨b2', o2 + k * 3, none⟩ = some (.bool y.neg) ∧ W.cell? ⟨b2', o2 + k * 3 + 1, none⟩ = some (.slice P' y.num.length kP') ∧ W.cell? ⟨b2', o2 + k * 3 + 2, none⟩ = some (.slice Q' y.den.length kQ')) := fun W hW => ⟨zac hW c0, zac hW c1, zac hW c2, zac hW d0, zac hW d1, zac hW d2⟩
        have D3 : Hid (∀ W : World, Below wr.heap.size wr W → Calls Tryd.prog 20 #[.agg #[.bool x.neg, .slice P x.num.length kP, .slice Q x.den.length kQ], .agg #[.bool y.neg, .slice P' y.num.length kP', .slice Q' y.den.length kQ']] W (fun e w' => e = .returned (.bool true) ∧ Below W.heap.size W w')) := fun W hW => by rw [Hq.out]; exact same_r (IsR.stb.next QX.out hW) (IsR.stb.next QY.out hW)
        go_region_held3 (fun w' => w'.cell? ⟨b1', o1 + k * 3, none⟩ = some (.bool x.neg) ∧ w'.cell? ⟨b1', o1 + k * 3 + 1, none⟩ = some (.slice P x.num.length kP) ∧ w'.cell? ⟨b1', o1 + k * 3 + 2, none⟩ = some (.slice Q x.den.length kQ) ∧ w'.cell? ⟨b2', o2 + k * 3, none⟩ = some (.bool y.neg) ∧ w'.cell? ⟨b2', o2 + k * 3 + 1, none⟩ = some (.slice P' y.num.length kP') ∧ w'.cell? ⟨b2', o2 + k * 3 + 2, none⟩ = some (.slice Q' y.den.length kQ'))
          (exact HS.out _ (by (repeat (first | exact Below.refl _ _ | assumption | refine zae ?_ _ | refine zaf ?_ | refine zag ?_ ?_ _ _ _ | refine zai ?_ (by omega) | refine zaa ?_ (by assumption))); (first | done | fail)))
          (first
            | (go_at_call 20; (with_reducible refine Calls.mono (D3.out _ (by (repeat (first | exact Below.refl _ _ | assumption | refine zae ?_ _ | refine zaf ?_ | refine zag ?_ ?_ _ _ _ | refine zai ?_ (by omega) | refine zaa ?_ (by assumption))); (first | done | fail))) ?_); rintro e w3 ⟨rfl, hb3⟩))
        have Hb3 := Lib.hid (zaa Hbw.out (show Below wr.heap.size wr w3 from (by (repeat (first | exact Below.refl _ _ | assumption | refine zae ?_ _ | refine zaf ?_ | refine zag ?_ ?_ _ _ _ | refine zai ?_ (by omega) | refine zaa ?_ (by assumption))); (first | done | fail))))
        clear hb3 HS D3
        go_wp2_with fail
        go_roundw
        case rel =>
          refine ⟨k + 1, by omega, by go_num, Hb3.out, fun j hj => ?_⟩
          rcases Nat.lt_or_ge j k with h | h
          · exact Hrel.out j h
          · obtain rfl : j = k := by omega
            rw [Hx.out, Hy.out, of_decide_eq_true Hq.out.symm]
        case measure => simp [intOf]; omega
    · obtain rfl : k = la := by omega
      have Hr : Hid (decide (a = b) = true) := decide_eq_true (list_eq (by rw [← Hla.out, ← Hlb.out]) (fun j hj => Hrel.out j (by rw [Hla.out]; exact hj)))
      clear hbw
      go_wp2_with fail
      go_ret
      exact ⟨by show Ending.returned (.bool _) = _; rw [Hr.out], Hbw.out⟩
set_option maxRecDepth 100000 in
set_option maxHeartbeats 2000000 in
theorem same_m {w : World} {va vb : Value} {a b : List (List Raw)} (ha : IsM w (Old w) va a) (hb : IsM w (Old w) vb b) :
    Calls Tryd.prog 41 #[va, vb] w fun e w' => e = .returned (.bool (decide (a = b))) ∧ Below w.heap.size w w' := by
  have HA := Lib.hid ha
  have HB := Lib.hid hb
  obtain ⟨A, cA, rfl, mA⟩ := zca ha
  obtain ⟨B, cB, rfl, mB⟩ := zca hb
  clear ha hb
  obtain ⟨la, hla⟩ : ∃ n, n = a.length := ⟨_, rfl⟩
  obtain ⟨lb, hlb⟩ : ∃ n, n = b.length := ⟨_, rfl⟩
  rw [← hla] at HA mA ⊢
  rw [← hlb] at HB mB ⊢
  have Hla := Lib.hid hla
  have Hlb := Lib.hid hlb
  clear hla hlb
  by_cases hl : la = lb
  case neg =>
    have b1 : ((la : Int) != (lb : Int)) = true := bne_iff_ne.2 (by omega)
    have Hr : Hid (decide (a = b) = false) := decide_eq_false (fun e => hl (by rw [Hla.out, Hlb.out, e]))
    clear hl
    go_enter Tryd.func41, Tryd.ntmps41
    go_wp2_with fail
    go_ret
    exact ⟨by show Ending.returned (.bool _) = _; rw [Hr.out], Below.refl _ _⟩
  subst hl
  have b1 : ((la : Int) != (la : Int)) = false := by simp
  go_enter Tryd.func41, Tryd.ntmps41
  go_wp2_with fail
  go_loopw [5] (fun i wr => ∃ k : Nat, k ≤ la ∧ i = .int .i64 (k : Int) ∧ Below w.heap.size w wr ∧ Hid (∀ j, j < k → a[j]? = b[j]?)) (fun i _ => la - (intOf i).toNat)
  case atStart => exact ⟨0, Nat.zero_le _, rfl, Below.refl _ _, fun j hj => by omega⟩
  case round =>
    obtain ⟨k, hk, rfl, hbw, hrel⟩ := hrel
    have Hbw := Lib.hid hbw
    have Hrel := Lib.hid hrel.out
    clear hrel
    rcases Nat.lt_or_ge k la with hlt | hge
    · obtain ⟨x, hx⟩ := some_at (l := a) (j := k) (by rw [← Hla.out]; exact hlt)
      obtain ⟨y, hy⟩ := some_at (l := b) (j := k) (by rw [← Hlb.out]; exact hlt)
      obtain ⟨b1', o1, P, kP, rfl, hS1, helx, c0⟩ := zcr (IsM.stb.to HA.out (zba hbw)) hx
      obtain ⟨b2', o2, P', kP', rfl, hS2, hely, d0⟩ := zcr (IsM.stb.to HB.out (zba hbw)) hy
      have Hx := Lib.hid hx
      have Hy := Lib.hid hy
      have QX := Lib.hid helx
      have QY := Lib.hid hely
      have cr := zbr
      have hk0 : (0 : Int) ≤ (k : Int) := by omega
      have hk1 : (k : Int) < (la : Int) := by omega
      obtain ⟨q, hq⟩ : ∃ q, q = decide (x = y) := ⟨_, rfl⟩
      have Hq := Lib.hid hq
      clear hx hy helx hely hbw hq
      cases q with
      | false =>
        go_wp2_with fail
        have HS : Hid (∀ W : World, Below wr.heap.size wr W → W.cell? ⟨b1', o1 + k, none⟩ = some (.slice P x.length kP) ∧ W.cell? ⟨b2', o2 + k, none⟩ = some (.slice P' y.length kP')) := fun W hW => ⟨zac hW c0, zac hW d0⟩
        have D3 : Hid (∀ W : World, Below wr.heap.size wr W → Calls Tryd.prog 36 #[.slice P x.length kP, .slice P' y.length kP'] W (fun e w' => e = .returned (.bool false) ∧ Below W.heap.size W w')) := fun W hW => by rw [Hq.out]; exact same_v (IsV.stb.next QX.out hW) (IsV.stb.next QY.out hW)
        go_region_held3 (fun w' => w'.cell? ⟨b1', o1 + k, none⟩ = some (.slice P x.length kP) ∧ w'.cell? ⟨b2', o2 + k, none⟩ = some (.slice P' y.length kP'))
          (exact HS.out _ (by (repeat (first | exact Below.refl _ _ | assumption | refine zae ?_ _ | refine zaf ?_ | refine zag ?_ ?_ _ _ _ | refine zai ?_ (by omega) | refine zaa ?_ (by assumption))); (first | done | fail)))
          (first
            | (go_at_call 36; (with_reducible refine Calls.mono (D3.out _ (by (repeat (first | exact Below.refl _ _ | assumption | refine zae ?_ _ | refine zaf ?_ | refine zag ?_ ?_ _ _ _ | refine zai ?_ (by omega) | refine zaa ?_ (by assumption))); (first | done | fail))) ?_); rintro e w3 ⟨rfl, hb3⟩))
        have Hb3 := Lib.hid (zaa Hbw.out (show Below wr.heap.size wr w3 from (by (repeat (first | exact Below.refl _ _ | assumption | refine zae ?_ _ | refine zaf ?_ | refine zag ?_ ?_ _ _ _ | refine zai ?_ (by omega) | refine zaa ?_ (by assumption))); (first | done | fail))))
        clear hb3 HS D3
        go_wp2_with fail
        have Hr : Hid (decide (a = b) = false) := decide_eq_false (fun e => by have h1 := Hx.out; rw [e, Hy.out] at h1; cases h1; have h2 := Hq.out; simp at h2)
        go_ret
        exact ⟨by show Ending.returned (.bool _) = _; rw [Hr.out], Hb3.out⟩
      | true =>
        go_wp2_with fail
        have HS : Hid (∀ W : World, Below wr.heap.size wr W → W.cell? ⟨b1', o1 + k, none⟩ = some (.slice P x.length kP) ∧ W.cell? ⟨b2', o2 + k, none⟩ = some (.slice P' y.length kP')) := fun W hW => ⟨zac hW c0, zac hW d0⟩
        have D3 : Hid (∀ W : World, Below wr.heap.size wr W → Calls Tryd.prog 36 #[.slice P x.length kP, .slice P' y.length kP'] W (fun e w' => e = .returned (.bool true) ∧ Below W.heap.size W w')) := fun W hW => by rw [Hq.out]; exact same_v (IsV.stb.next QX.out hW) (IsV.stb.next QY.out hW)
        go_region_held3 (fun w' => w'.cell? ⟨b1', o1 + k, none⟩ = some (.slice P x.length kP) ∧ w'.cell? ⟨b2', o2 + k, none⟩ = some (.slice P' y.length kP'))
          (exact HS.out _ (by (repeat (first | exact Below.refl _ _ | assumption | refine zae ?_ _ | refine zaf ?_ | refine zag ?_ ?_ _ _ _ | refine zai ?_ (by omega) | refine zaa ?_ (by assumption))); (first | done | fail)))
          (first
            | (go_at_call 36; (with_reducible refine Calls.mono (D3.out _ (by (repeat (first | exact Below.refl _ _ | assumption | refine zae ?_ _ | refine zaf ?_ | refine zag ?_ ?_ _ _ _ | refine zai ?_ (by omega) | refine zaa ?_ (by assumption))); (first | done | fail))) ?_); rintro e w3 ⟨rfl, hb3⟩))
        have Hb3 := Lib.hid (zaa Hbw.out (show Below wr.heap.size wr w3 from (by (repeat (first | exact Below.refl _ _ | assumption | refine zae ?_ _ | refine zaf ?_ | refine zag ?_ ?_ _ _ _ | refine zai ?_ (by omega) | refine zaa ?_ (by assumption))); (first | done | fail))))
        clear hb3 HS D3
        go_wp2_with fail
        go_roundw
        case rel =>
          refine ⟨k + 1, by omega, by go_num, Hb3.out, fun j hj => ?_⟩
          rcases Nat.lt_or_ge j k with h | h
          · exact Hrel.out j h
          · obtain rfl : j = k := by omega
            rw [Hx.out, Hy.out, of_decide_eq_true Hq.out.symm]
        case measure => simp [intOf]; omega
    · obtain rfl : k = la := by omega
      have Hr : Hid (decide (a = b) = true) := decide_eq_true (list_eq (by rw [← Hla.out, ← Hlb.out]) (fun j hj => Hrel.out j (by rw [Hla.out]; exact hj)))
      clear hbw
      go_wp2_with fail
      go_ret
      exact ⟨by show Ending.returned (.bool _) = _; rw [Hr.out], Hbw.out⟩
instance : DecidableEq Prog := fun a b => if h : a.A = b.A ∧ a.B = b.B ∧ a.C = b.C then isTrue (by cases a; cases b; simp only at h; obtain ⟨rfl, rfl, rfl⟩ := h; rfl) else isFalse (fun e => h (by rw [e]; exact ⟨rfl, rfl, rfl⟩))
end Go.Proofs.YtjkgdggkgljdoaaDoor
