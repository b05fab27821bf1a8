/-
  Contracts of package vector: Add, with its step and the fold over it.
-/
import Derived.Test.YtblpaocignlpkaaGreatDoorVlin18
import Derived.Test.YtblpaocignlpkaaGreatDoorVlin11
import Derived.Test.YtblpaocignlpkaaGreatDoorVlin10
import Derived.Test.YtblpaocignlpkaaGreatDoorVlin09
import Derived.Test.YtblpaocignlpkaaGreatDoorProofVectorLinear01
import Derived.Test.YtblpaocignlpkaaGreatDoorVlin07
import Derived.Test.YtblpaocignlpkaaGreatDoorVlin04
import Derived.Test.YtblpaocignlpkaaGreatDoorVlin06
import Derived.Test.YtblpaocignlpkaaGreatDoorVlin01
namespace Go.Proofs.YtblpaocignlpkaaGreatDoor
open Go.RowKit
set_option linter.unusedVariables false
def addQ (a b : List Rat) : List Rat := List.zipWith (· + ·) a b
theorem addQ_len {a b : List Rat} {M : Nat} (ha : a.length = M) (hb : b.length = M) : (addQ a b).length = M := by simp [addQ, ha, hb]
theorem addQ_at {a b : List Rat} {k : Nat} {x y : Rat} (hx : a[k]? = some x) (hy : b[k]? = some y) : (addQ a b)[k]? = some (x + y) := by
  unfold addQ
  rw [List.getElem?_zipWith, hx, hy]
theorem bndV_ok {v : Value} {l : List Rat} (h : ∀ q ∈ l, Sz q 1024) : bndV v l = .returned (.tuple #[v, .int .i64 0]) := by
  unfold bndV
  have e : l.all fitsQ = true := List.all_eq_true.2 fun q hq => fitsQ_true.2 (h q hq)
  rw [e]
  rfl
set_option maxRecDepth 100000 in
set_option maxHeartbeats 2000000 in
theorem add1_l {w : World} {v vx vy : Value} {base : Nat} {S : Nat → Prop} {l : List Raw} {qx qy qz : Rat} (ho : OwnS 3 31 IsR w base S v l) (hbase : base ≤ w.heap.size) (hx : IsQ w (Old w) vx qx) (hy : IsQ w (Old w) vy qy) (hB : Bru w) (sx : Sz qx 100000) (sy : Sz qy 100000) (hl : l.length ≤ 1000) (hz : qz = qx + qy) :
    Calls Tryz.prog 90 #[v, vx, vy] w fun e w' => (∃ v' S', e = .returned v' ∧ OwnS 3 31 IsR w' base S' v' (l ++ [raw qz]) ∧ ∀ b, S' b → S b ∨ w.heap.size ≤ b) ∧ Below base w w' := by
  have HO := Lib.hid ho
  have HX := Lib.hid hx
  have HY := Lib.hid hy
  have HB := Lib.hid hB
  have Hz := Lib.hid hz
  obtain ⟨x0, X1, X2, X3, X4, rfl, _, _, _⟩ := zal hx
  obtain ⟨y0, Y1, Y2, Y3, Y4, rfl, _, _, _⟩ := zal hy
  obtain ⟨w0, hw0, hb0, rX, rY, Hz0⟩ := zeq w #[.bool x0, .slice X1 (lim qx.num.natAbs).length X2, .slice X3 (lim qx.den).length X4] #[.bool y0, .slice Y1 (lim qy.num.natAbs).length Y2, .slice Y3 (lim qy.den).length Y4] 31 31
  have HB0 := Lib.hid hb0
  have QX := Lib.hid (IsQ.stb.next HX.out hb0)
  have QY := Lib.hid (IsQ.stb.next HY.out hb0)
  obtain ⟨c0, c1, c2⟩ := zac rX
  obtain ⟨d0, d1, d2⟩ := zac rY
  clear rX rY hb0 ho hx hy hB hz
  go_enter Tryz.func90, Tryz.ntmps90
  go_wp2_with fail
  clear hw0
  refine (plus_q QX.out QY.out (Bru.next HB.out HB0.out) sx sy Hz.out).mono ?_
  rintro e w2 ⟨⟨v2, rfl, hv2⟩, hb⟩
  have Hb2 := Lib.hid (zaa HB0.out hb)
  have Hv2 := Lib.hid hv2
  have hsz := Hb2.out.size
  have hsz0 := HB0.out.size
  have hbs : base ≤ w2.heap.size := Nat.le_trans hbase hsz
  obtain ⟨s2, P2, k2, O2, l2, rfl, _, _, _⟩ := zal hv2
  have hown2 := OwnS.step IsR.stb (T := fun b => S b ∨ (w.heap.size ≤ b ∧ b < w2.heap.size)) HO.out Hb2.out (fun b h => .inl h) (fun b h => h)
  have hel2 := IsQ.stb.to Hv2.out (zba (T := fun b => S b ∨ (w.heap.size ≤ b ∧ b < w2.heap.size)) fun b h => .inr ⟨Nat.le_trans hsz0 h.1, h.2⟩)
  clear hb hv2 c0 c1 c2 d0 d1 d2
  go_wp2_with (at_builtin; refine zcj elR rfl _ _ rfl IsR.stb rfl rfl rfl hown2 hel2 rfl (by intro u hu; simp [Value.cells] at hu; rcases hu with rfl | rfl | rfl <;> rfl) (by omega) hbs ?_; intro v3 w3 hown3 hb3 hz3)
  go_ret
  exact ⟨⟨_, _, rfl, hown3, fun b hb => hb.imp id fun h => h.1⟩, (Hb2.out.mono hbase).trans hb3⟩
def PhiFv (b2 o2 M cB k : Nat) (P : Option Addr) (c : Nat) (x0 y0 : Bool) (X1 X3 Y1 Y3 : Option Addr) (x1 X2 x2 X4 y1 Y2 y2 Y4 : Nat) (i : Nat) (v : Value) (w : World) (X : Nat → Option Value) : Prop :=
  match i with
  | 0 => v = .func (.func 90) #[] #[]
  | 1 => v = .slice P k c
  | 2 => v = .agg #[.bool x0, .slice X1 x1 X2, .slice X3 x2 X4]
  | 3 => v = .slice (some ⟨b2, o2, none⟩) M cB
  | 4 => v = .int .i64 (k : Int)
  | 5 => v = .pointer (some ⟨b2, (o2 + k * 3), none⟩)
  | 6 => v = .agg #[.bool y0, .slice Y1 y1 Y2, .slice Y3 y2 Y4]
  | _ => True
theorem phiFv_st (b2 o2 M cB k : Nat) (P : Option Addr) (c : Nat) (x0 y0 : Bool) (X1 X3 Y1 Y3 : Option Addr) (x1 X2 x2 X4 y1 Y2 y2 Y4 : Nat) : ∀ i v (w w' : World) X X', PhiFv b2 o2 M cB k P c x0 y0 X1 X3 Y1 Y3 x1 X2 x2 X4 y1 Y2 y2 Y4 i v w X → PhiFv b2 o2 M cB k P c x0 y0 X1 X3 Y1 Y3 x1 X2 x2 X4 y1 Y2 y2 Y4 i v w' X' := fun i v w w' X X' h => by
  match i, h with
  | 0, h => exact h
  | 1, h => exact h
  | 2, h => exact h
  | 3, h => exact h
  | 4, h => exact h
  | 5, h => exact h
  | 6, h => exact h
  | _ + 7, _ => exact trivial
set_option maxRecDepth 100000 in
set_option maxHeartbeats 4000000 in
theorem foldv_l {w : World} {va vb v0 : Value} {a b : List Rat} {M base : Nat} {S0 : Nat → Prop} (ha : IsV w (fun b => b < base) va (rawV a)) (hb : IsV w (fun b => b < base) vb (rawV b)) (h0 : OwnS 3 31 IsR w base S0 v0 []) (hbase : base ≤ w.heap.size) (hS0 : ∀ b, S0 b → base ≤ b) (hB : Bru w) (hBb : ∀ W, Below base w W → Bru W) (hla : a.length = M) (hlb : b.length = M) (hM : M ≤ 40) (sa : ∀ q ∈ a, Sz q 1024) (sb : ∀ q ∈ b, Sz q 1024) :
    Calls Tryz.prog 89 #[va, vb, v0, .func (.func 90) #[] #[]] w fun e w' => (∃ v S, e = .returned v ∧ OwnS 3 31 IsR w' base S v (rawV (addQ a b)) ∧ ∀ b, S b → base ≤ b) ∧ Below base w w' := by
  have HA := Lib.hid ha
  have HV := Lib.hid hb
  have HB := Lib.hid hBb
  have Hla := Lib.hid hla
  have Hlb := Lib.hid hlb
  have Hsa := Lib.hid sa
  have Hsb := Lib.hid sb
  obtain ⟨A, cA, rfl, _⟩ := zby ha
  obtain ⟨B, cB, rfl, _⟩ := zby hb
  have ela : (rawV a).length = M := by simp [rawV, hla]
  have elb : (rawV b).length = M := by simp [rawV, hlb]
  rw [ela] at HA
  rw [elb] at HV
  rw [ela, elb]
  have H0 := Lib.hid h0
  have HS0 := Lib.hid hS0
  obtain ⟨P, c, rfl⟩ := h0.slice
  clear ha hb hla hlb sa sb ela elb h0 hB hS0 hBb
  go_enter Tryz.func89, Tryz.ntmps89
  go_wp2_with fail
  go_loopw [13, 2, 9, 10] (fun i v _ _ wr => ∃ (k : Nat) (S : Nat → Prop), k ≤ M ∧ i = .int .i64 (k : Int) ∧ Below base w wr ∧ OwnS 3 31 IsR wr base S v (rawV ((addQ a b).take k)) ∧ Hid (∀ b, S b → base ≤ b)) (fun i _ _ _ _ => M - (intOf i).toNat)
  case atStart => exact ⟨0, S0, Nat.zero_le _, rfl, Below.refl _ _, by simpa [rawV] using H0.out, HS0.out⟩
  case round =>
    obtain ⟨k, S, hk, rfl, hbw, hown, hS⟩ := hrel
    have HO := Lib.hid hown
    have HS := Lib.hid hS.out
    have HBw := Lib.hid hbw
    have hszw := hbw.size
    obtain ⟨P, c, hP⟩ := hown.slice
    have elk : (rawV ((addQ a b).take k)).length = k := by rw [zbp, List.length_take, addQ_len Hla.out Hlb.out]; omega
    rw [elk] at hP
    subst hP
    clear hown hS
    rcases Nat.lt_or_ge k M with hlt | hge
    · obtain ⟨x, hx, hrx⟩ := zct (l := a) (j := k) (by rw [Hla.out]; exact hlt)
      obtain ⟨y, hy, hry⟩ := zct (l := b) (j := k) (by rw [Hlb.out]; exact hlt)
      obtain ⟨b1, o1, X1, X2, X3, X4, rfl, hSb1, helx, c0, c1, c2⟩ := zcu HA.out hrx
      obtain ⟨b2, o2, Y1, Y2, Y3, Y4, rfl, hSb2, hely, d0, d1, d2⟩ := zcu HV.out hry
      obtain ⟨x0, hx0⟩ : ∃ s, s = (raw x).neg := ⟨_, rfl⟩
      obtain ⟨x1, hx1⟩ : ∃ s, s = (raw x).num.length := ⟨_, rfl⟩
      obtain ⟨x2, hx2⟩ : ∃ s, s = (raw x).den.length := ⟨_, rfl⟩
      obtain ⟨y0, hy0⟩ : ∃ s, s = (raw y).neg := ⟨_, rfl⟩
      obtain ⟨y1, hy1⟩ : ∃ s, s = (raw y).num.length := ⟨_, rfl⟩
      obtain ⟨y2, hy2⟩ : ∃ s, s = (raw y).den.length := ⟨_, rfl⟩
      rw [← hx0] at c0
      rw [← hx1] at c1
      rw [← hx2] at c2
      rw [← hy0] at d0
      rw [← hy1] at d1
      rw [← hy2] at d2
      rw [← hx0, ← hx1, ← hx2] at helx
      rw [← hy0, ← hy1, ← hy2] at hely
      replace c0 := hbw.cell (p := ⟨b1, o1 + k * 3, none⟩) hSb1 |>.trans c0
      replace c1 := hbw.cell (p := ⟨b1, o1 + k * 3 + 1, none⟩) hSb1 |>.trans c1
      replace c2 := hbw.cell (p := ⟨b1, o1 + k * 3 + 2, none⟩) hSb1 |>.trans c2
      have Hy3 : Hid (w.cell? ⟨b2, o2 + k * 3, none⟩ = some (.bool y0) ∧ w.cell? ⟨b2, o2 + k * 3 + 1, none⟩ = some (.slice Y1 y1 Y2) ∧ w.cell? ⟨b2, o2 + k * 3 + 2, none⟩ = some (.slice Y3 y2 Y4)) := ⟨d0, d1, d2⟩
      have same0 : Same (fun b => b < base) (Old wr) w wr := fun z hz => ⟨Nat.lt_of_lt_of_le hz (Nat.le_trans hbase hszw), fun o => hbw.cell (p := ⟨z, o, none⟩) hz⟩
      have Qx := Lib.hid (IsQ.stb.to (zek helx) same0)
      have Qy := Lib.hid (IsQ.stb.to (zek hely) same0)
      have Hx := Lib.hid hx
      have Hy := Lib.hid hy
      have cr := zbs
      have Hsb2 : Hid (b2 < base) := hSb2
      clear hx hy hrx hry helx hely hx0 hx1 hx2 hy0 hy1 hy2 d0 d1 d2 hSb1 hSb2 same0
      obtain ⟨wx, hwx⟩ : ∃ x, x = wr.alloc (.cells #[.bool x0, .slice X1 x1 X2, .slice X3 x2 X4] 31) := ⟨_, rfl⟩
      have hbx : Below wr.heap.size wr wx := by rw [hwx]; exact zbn _ _
      have hrx : Row wx wr.heap.size 31 [.bool x0, .slice X1 x1 X2, .slice X3 x2 X4] := by rw [hwx]; exact heap_alloc_new _ _
      go_wp2_with fail
      rw [← hwx]
      obtain ⟨wd, hwd⟩ : ∃ x, x = wx.drew := ⟨_, rfl⟩
      have hbd : Below wr.heap.size wr wd := by rw [hwd]; exact zaa hbx (zab _)
      have BD := Lib.hid hbd
      have Hwd := Lib.hid hwd
      have RX : Hid (Row wd wr.heap.size 31 [.bool x0, .slice X1 x1 X2, .slice X3 x2 X4]) := by rw [Hid, hwd]; exact hrx
      have Bwd := Lib.hid (HBw.out.trans (hbd.mono (Nat.le_trans hbase hszw)))
      obtain ⟨n0, n1, n2⟩ := zac RX.out
      have d0 := Bwd.out.cell (p := ⟨b2, o2 + k * 3, none⟩) Hsb2.out |>.trans Hy3.out.1
      have d1 := Bwd.out.cell (p := ⟨b2, o2 + k * 3 + 1, none⟩) Hsb2.out |>.trans Hy3.out.2.1
      have d2 := Bwd.out.cell (p := ⟨b2, o2 + k * 3 + 2, none⟩) Hsb2.out |>.trans Hy3.out.2.2
      clear hwx hbx hrx hwd hbd c0 c1 c2 Hy3
      refine zdp fun ops hops => ?_
      have oq0 := zaq (j := 0) hops rfl
      have oq1 := zaq (j := 1) hops rfl
      have oq2 := zaq (j := 2) hops rfl
      have oq3 := zaq (j := 3) hops rfl
      have oq4 := zaq (j := 4) hops rfl
      have oq5 := zaq (j := 5) hops rfl
      have oq6 := zaq (j := 6) hops rfl
      have oq7 := zaq (j := 7) hops rfl
      have oq8 := zaq (j := 8) hops rfl
      have fr := fun t h => zdv (n := 7) hops t h
      refine zdw 7 (PhiFv b2 o2 M cB k P c x0 y0 X1 X3 Y1 Y3 x1 X2 x2 X4 y1 Y2 y2 Y4) (fun _ _ => True) (fun x => x = wd) (fun _ w w' => w.grownBy w' none) (by kernel_rfl) Hwd.out.symm (fun _ => trivial) (fun _ _ _ _ _ _ _ _ => trivial) (fun i _ v wa wb X u _ _ h _ _ => phiFv_st _ _ _ _ _ _ _ _ _ _ _ _ _ _ _ _ _ _ _ _ _ i v wa wb X _ h) (by rw [hops]; kernel_rfl) (by rw [hops]; kernel_rfl) ?step ?fin
      case step =>
        intro i o hin hi a W X hsz hdf hJ hP hXi hfree hdep
        obtain ⟨T, df⟩ := a
        replace hsz : T.size = 28 := hsz
        obtain rfl : df = [] := hdf
        match i, hin, hi, hXi, hP with
        | 0, _, hi, hXi, hP =>
          obtain rfl := Option.some.inj (oq0.symm.trans hi)
          have e3 : T[3]? = some (.func (.func 90) #[] #[]) := hfree 3 (fr 3 (by kernel_rfl))
          subst hJ
          refine zae rfl ?_
          refine zap (E := fun w' => W.grownBy w' (none)) (Φ := PhiFv b2 o2 M cB k P c x0 y0 X1 X3 Y1 Y3 x1 X2 x2 X4 y1 Y2 y2 Y4 0) fun K hK => ?_
          clear hdep hfree hsz hops fr oq0 oq1 oq2 oq3 oq4 oq5 oq6 oq7 oq8
          go_simp
          exact hK (.func (.func 90) #[] #[]) _ (zag _ _) rfl rfl
        | 1, _, hi, hXi, hP =>
          obtain rfl := Option.some.inj (oq1.symm.trans hi)
          have e2 : T[2]? = some (.slice P k c) := hfree 2 (fr 2 (by kernel_rfl))
          subst hJ
          refine zae rfl ?_
          refine zap (E := fun w' => W.grownBy w' (none)) (Φ := PhiFv b2 o2 M cB k P c x0 y0 X1 X3 Y1 Y3 x1 X2 x2 X4 y1 Y2 y2 Y4 1) fun K hK => ?_
          clear hdep hfree hsz hops fr oq0 oq1 oq2 oq3 oq4 oq5 oq6 oq7 oq8
          go_simp
          exact hK (.slice P k c) _ (zag _ _) rfl rfl
        | 2, _, hi, hXi, hP =>
          obtain rfl := Option.some.inj (oq2.symm.trans hi)
          have e10 : T[10]? = some (.pointer (some ⟨wr.heap.size, 0, none⟩)) := hfree 10 (fr 10 (by kernel_rfl))
          subst hJ
          refine zae rfl ?_
          refine zap (E := fun w' => W.grownBy w' (none)) (Φ := PhiFv b2 o2 M cB k P c x0 y0 X1 X3 Y1 Y3 x1 X2 x2 X4 y1 Y2 y2 Y4 2) fun K hK => ?_
          clear hdep hfree hsz hops fr oq0 oq1 oq2 oq3 oq4 oq5 oq6 oq7 oq8
          go_simp
          exact hK (.agg #[.bool x0, .slice X1 x1 X2, .slice X3 x2 X4]) _ (zag _ _) rfl rfl
        | 3, _, hi, hXi, hP =>
          obtain rfl := Option.some.inj (oq3.symm.trans hi)
          have e1 : T[1]? = some (.slice (some ⟨b2, o2, none⟩) M cB) := hfree 1 (fr 1 (by kernel_rfl))
          subst hJ
          refine zae rfl ?_
          refine zap (E := fun w' => W.grownBy w' (none)) (Φ := PhiFv b2 o2 M cB k P c x0 y0 X1 X3 Y1 Y3 x1 X2 x2 X4 y1 Y2 y2 Y4 3) fun K hK => ?_
          clear hdep hfree hsz hops fr oq0 oq1 oq2 oq3 oq4 oq5 oq6 oq7 oq8
          go_simp
          exact hK (.slice (some ⟨b2, o2, none⟩) M cB) _ (zag _ _) rfl rfl
        | 4, _, hi, hXi, hP =>
          obtain rfl := Option.some.inj (oq4.symm.trans hi)
          have e9 : T[9]? = some (.int .i64 (k : Int)) := hfree 9 (fr 9 (by kernel_rfl))
          subst hJ
          refine zae rfl ?_
          refine zap (E := fun w' => W.grownBy w' (none)) (Φ := PhiFv b2 o2 M cB k P c x0 y0 X1 X3 Y1 Y3 x1 X2 x2 X4 y1 Y2 y2 Y4 4) fun K hK => ?_
          clear hdep hfree hsz hops fr oq0 oq1 oq2 oq3 oq4 oq5 oq6 oq7 oq8
          go_simp
          exact hK (.int .i64 (k : Int)) _ (zag _ _) rfl rfl
        | 5, _, hi, hXi, hP =>
          obtain rfl := Option.some.inj (oq5.symm.trans hi)
          have d21 : (T.getD 21 undef) = .slice (some ⟨b2, o2, none⟩) M cB := (hdep 3 _ (odt (by kernel_rfl)) oq3).2
          have e21 := zai (by omega) d21
          clear d21
          have d22 : (T.getD 22 undef) = .int .i64 (k : Int) := (hdep 4 _ (odt (by kernel_rfl)) oq4).2
          have e22 := zai (by omega) d22
          clear d22
          subst hJ
          refine zae rfl ?_
          refine zap (E := fun w' => W.grownBy w' (none)) (Φ := PhiFv b2 o2 M cB k P c x0 y0 X1 X3 Y1 Y3 x1 X2 x2 X4 y1 Y2 y2 Y4 5) fun K hK => ?_
          clear hdep hfree hsz hops fr oq0 oq1 oq2 oq3 oq4 oq5 oq6 oq7 oq8
          go_simp
          exact hK (.pointer (some ⟨b2, (o2 + k * 3), none⟩)) _ (zag _ _) rfl rfl
        | 6, _, hi, hXi, hP =>
          obtain rfl := Option.some.inj (oq6.symm.trans hi)
          have d23 : (T.getD 23 undef) = .pointer (some ⟨b2, (o2 + k * 3), none⟩) := (hdep 5 _ (odt (by kernel_rfl)) oq5).2
          have e23 := zai (by omega) d23
          clear d23
          subst hJ
          refine zae rfl ?_
          refine zap (E := fun w' => W.grownBy w' (none)) (Φ := PhiFv b2 o2 M cB k P c x0 y0 X1 X3 Y1 Y3 x1 X2 x2 X4 y1 Y2 y2 Y4 6) fun K hK => ?_
          clear hdep hfree hsz hops fr oq0 oq1 oq2 oq3 oq4 oq5 oq6 oq7 oq8
          go_simp
          exact hK (.agg #[.bool y0, .slice Y1 y1 Y2, .slice Y3 y2 Y4]) _ (zag _ _) rfl rfl
        | i + 7, hin, hi, hXi, hP => exact absurd hin (by omega)
      case fin =>
        intro a W X hsz hdf hJ hfree hall
        obtain ⟨⟨l⟩, df⟩ := a
        replace hsz : l.length = 28 := hsz
        obtain ⟨fs, rfl⟩ := open28 hsz
        obtain rfl : df = [] := hdf
        have bs0 : fs 0 = .slice (some ⟨b1, o1, none⟩) M cA := Option.some.inj (hfree 0 (fr 0 (by kernel_rfl)))
        have bs1 : fs 1 = .slice (some ⟨b2, o2, none⟩) M cB := Option.some.inj (hfree 1 (fr 1 (by kernel_rfl)))
        have bs2 : fs 2 = .slice P k c := Option.some.inj (hfree 2 (fr 2 (by kernel_rfl)))
        have bs3 : fs 3 = .func (.func 90) #[] #[] := Option.some.inj (hfree 3 (fr 3 (by kernel_rfl)))
        have bs4 : fs 4 = undef := Option.some.inj (hfree 4 (fr 4 (by kernel_rfl)))
        have bs5 : fs 5 = undef := Option.some.inj (hfree 5 (fr 5 (by kernel_rfl)))
        have bs6 : fs 6 = undef := Option.some.inj (hfree 6 (fr 6 (by kernel_rfl)))
        have bs7 : fs 7 = undef := Option.some.inj (hfree 7 (fr 7 (by kernel_rfl)))
        have bs8 : fs 8 = .slice none 0 0 := Option.some.inj (hfree 8 (fr 8 (by kernel_rfl)))
        have bs9 : fs 9 = .int .i64 (k : Int) := Option.some.inj (hfree 9 (fr 9 (by kernel_rfl)))
        have bs10 : fs 10 = .pointer (some ⟨wr.heap.size, 0, none⟩) := Option.some.inj (hfree 10 (fr 10 (by kernel_rfl)))
        have bs11 : fs 11 = .slice (some ⟨b1, o1, none⟩) M cA := Option.some.inj (hfree 11 (fr 11 (by kernel_rfl)))
        have bs12 : fs 12 = .int .i64 (M : Int) := Option.some.inj (hfree 12 (fr 12 (by kernel_rfl)))
        have bs13 : fs 13 = .int .i64 (k : Int) := Option.some.inj (hfree 13 (fr 13 (by kernel_rfl)))
        have bs27 : fs 27 = undef := Option.some.inj (hfree 27 (fr 27 (by kernel_rfl)))
        have x18 : X 0 = some (fs 18) := (hall 0 _ (by omega) oq0).1
        have q18 : (fs 18) = .func (.func 90) #[] #[] := (hall 0 _ (by omega) oq0).2
        clear x18
        have x19 : X 1 = some (fs 19) := (hall 1 _ (by omega) oq1).1
        have q19 : (fs 19) = .slice P k c := (hall 1 _ (by omega) oq1).2
        clear x19
        have x20 : X 2 = some (fs 20) := (hall 2 _ (by omega) oq2).1
        have q20 : (fs 20) = .agg #[.bool x0, .slice X1 x1 X2, .slice X3 x2 X4] := (hall 2 _ (by omega) oq2).2
        clear x20
        have x24 : X 6 = some (fs 24) := (hall 6 _ (by omega) oq6).1
        have q24 : (fs 24) = .agg #[.bool y0, .slice Y1 y1 Y2, .slice Y3 y2 Y4] := (hall 6 _ (by omega) oq6).2
        clear x24
        clear hall hfree hsz
        rw [hops]
        clear hops fr oq0 oq1 oq2 oq3 oq4 oq5 oq6 oq7 oq8
        rw [bs0, bs1, bs2, bs3, bs4, bs5, bs6, bs7, bs8, bs9, bs10, bs11, bs12, bs13, bs27, q18, q19, q20, q24]
        clear bs0 bs1 bs2 bs3 bs4 bs5 bs6 bs7 bs8 bs9 bs10 bs11 bs12 bs13 bs27 q18 q19 q20 q24
        subst hJ
        clear n0 n1 n2 d0 d1 d2
        show wpList _ _ _ [_, _] _ _
        go_wp2_with fail
        have Hpx := Hsa.out x (List.mem_of_getElem? Hx.out)
        have Hpy := Hsb.out y (List.mem_of_getElem? Hy.out)
        have hOd := OwnS.step IsR.stb HO.out BD.out (fun b h => h) (fun b h => .inl h)
        have hbd := Nat.le_trans (Nat.le_trans hbase hszw) BD.out.size
        rw [show Value.slice P k c = Value.slice P (rawV ((addQ a b).take k)).length c by rw [elk]] at hOd ⊢
        refine (add1_l (qz := x + y) hOd hbd (IsQ.stb.next Qx.out BD.out) (IsQ.stb.next Qy.out BD.out) (HB.out _ Bwd.out) (Hpx.le (by omega)) (Hpy.le (by omega)) (by rw [elk]; omega) rfl).mono ?_
        rintro e w3 ⟨⟨v3, S3, rfl, hv3, hS3⟩, hb3⟩
        have V3 := Lib.hid hv3
        have B3 := Lib.hid (Bwd.out.trans hb3)
        have H3 := Lib.hid hS3
        obtain ⟨P3, c3, hP3⟩ := hv3.slice
        subst hP3
        clear hv3 hb3 hOd hS3
        go_wp2_with fail
        go_roundw
        case rel =>
          refine ⟨k + 1, S3, hlt, by go_num, B3.out, ?_, fun b hb => (H3.out b hb).elim (HS.out b) fun h => Nat.le_trans hbd h⟩
          rw [zcp (addQ_at Hx.out Hy.out), zdh]
          have h := V3.out
          rw [List.length_append, elk] at h
          exact h
        case measure => simp [intOf]; omega
    · obtain rfl : k = M := by omega
      have hlt : ¬ k < k := by omega
      have e : (addQ a b).take k = addQ a b := List.take_of_length_le (by rw [addQ_len Hla.out Hlb.out]; exact Nat.le_refl _)
      rw [e] at HO
      clear e
      go_wp2_with fail
      go_ret
      exact ⟨⟨_, S, rfl, HO.out, HS.out⟩, HBw.out⟩
set_option maxRecDepth 100000 in
set_option maxHeartbeats 2000000 in
theorem vAdd_good {w : World} {va vb : Value} {a b : List Rat} {M : Nat} (ha : IsV w (Old w) va (rawV a)) (hb : IsV w (Old w) vb (rawV b)) (hB : Bru w) (h0 : bothE (rawV a) (rawV b) = 0) (hla : a.length = M) (hlb : b.length = M) (hM : M ≤ 40) (sa : ∀ q ∈ a, Sz q 1024) (sb : ∀ q ∈ b, Sz q 1024) (hs : ∀ q ∈ addQ a b, Sz q 1024) :
    Calls Tryz.prog 35 #[va, vb] w fun e w' => (∃ v, e = .returned (.tuple #[v, .int .i64 0]) ∧ IsV w' (Old w') v (rawV (addQ a b))) ∧ Below w.heap.size w w' := by
  have HA := Lib.hid ha
  have HV := Lib.hid hb
  have HB := Lib.hid hB
  have HE := Lib.hid h0
  have Hs := Lib.hid hs
  have Hla := Lib.hid hla
  have Hlb := Lib.hid hlb
  obtain ⟨A, cA, rfl, _⟩ := zby ha
  obtain ⟨B, cB, rfl, _⟩ := zby hb
  have ela : (rawV a).length = M := by simp [rawV, hla]
  have elb : (rawV b).length = M := by simp [rawV, hlb]
  rw [ela] at HA
  rw [elb] at HV
  rw [ela, elb]
  clear ha hb hB h0 hs ela elb
  go_enter Tryz.func35, Tryz.ntmps35
  go_wp2_with fail
  refine (vboth_l HA.out HV.out HB.out).mono ?_
  rw [HE.out]
  rintro e w1 ⟨rfl, hb1⟩
  have HB1 := Lib.hid hb1
  clear hb1
  go_wp2_with (at_make; refine zcz elR rfl _ _ rfl IsR M rfl rfl rfl (by omega) (base := w1.heap.size) (S := fun _ => False) (Nat.le_refl _) (fun b h => h.elim) ?_; intro v2 w2 hown2 hb2 hz2)
  have HB2 := Lib.hid (zaa HB1.out hb2)
  have hzz : w1.heap.size ≤ w2.heap.size := hz2
  refine (foldv_l (M := M) (base := w1.heap.size) (S0 := fun _ => False) (IsV.stb.to HA.out (fun b h => ⟨Nat.lt_of_lt_of_le h HB1.out.size, fun o => HB2.out.cell (p := ⟨b, o, none⟩) h⟩)) (IsV.stb.to HV.out (fun b h => ⟨Nat.lt_of_lt_of_le h HB1.out.size, fun o => HB2.out.cell (p := ⟨b, o, none⟩) h⟩)) hown2 hzz (fun b h => h.elim) (Bru.next HB.out HB2.out) (fun W hW => Bru.next HB.out (HB2.out.trans (hW.mono HB1.out.size))) Hla.out Hlb.out hM sa sb).mono ?_
  rintro e w3 ⟨⟨v3, S3, rfl, hv3, hS3⟩, hb3⟩
  have HB3 := Lib.hid (HB2.out.trans (hb3.mono HB1.out.size))
  have V3 : Hid (IsV w3 (Old w3) v3 (rawV (addQ a b))) := OwnS.isS IsR.stb (T := Old w3) hv3 (fun b hb => by obtain ⟨_, _, _, _, h4⟩ := hv3; exact (h4 b hb).1) (fun b h1 h2 => h2)
  clear hb3 hv3 hS3 hown2
  go_wp2_with fail
  refine (zfq V3.out).mono ?_
  rw [bndV_ok Hs.out]
  rintro e w4 ⟨rfl, hb4⟩
  have HB4 := Lib.hid (zaa HB3.out hb4)
  have V4 := Lib.hid (IsV.stb.next V3.out hb4)
  clear hb4
  go_wp2_with fail
  go_ret2
  exact ⟨⟨_, rfl, V4.out⟩, HB4.out⟩
theorem bndM_ok {v : Value} {m : List (List Rat)} (h : ∀ r ∈ m, ∀ q ∈ r, Sz q 1024) : bndM v m = .returned (.tuple #[v, .int .i64 0]) := by
  unfold bndM
  have e : (m.all fun l => l.all fitsQ) = true := List.all_eq_true.2 fun r hr => List.all_eq_true.2 fun q hq => fitsQ_true.2 (h r hr q hq)
  rw [e]
  rfl
theorem col_head {M : List (List Rat)} {n m : Nat} (hn : M.length = n) (hn1 : 1 ≤ n) (hrow : ∀ r ∈ M, r.length = m) : ((rawM M).headD []).length = m := by
  cases M with
  | nil => simp at hn; omega
  | cons a t => simp only [rawM, List.map_cons, List.headD_cons]; rw [zbp]; exact hrow a (by simp)
theorem turnQ_row {M : List (List Rat)} {n m : Nat} (hn : M.length = n) : ∀ r ∈ zdr M m, r.length = n := fun r hr => by
  obtain ⟨c, _, rfl⟩ := List.mem_map.1 hr
  rw [colT_len, hn]
theorem zdj (M : List (List Rat)) (m : Nat) : (zdr M m).length = m := by simp [zdr]
theorem turnQ_sz {M : List (List Rat)} {m k : Nat} (hrow : ∀ r ∈ M, r.length = m) (hs : ∀ r ∈ M, ∀ q ∈ r, Sz q k) : ∀ r ∈ zdr M m, ∀ q ∈ r, Sz q k := fun r hr q hq => by
  obtain ⟨c, hc, rfl⟩ := List.mem_map.1 hr
  obtain ⟨x, hx, rfl⟩ := List.mem_map.1 hq
  have hc' : c < x.length := by rw [hrow x hx]; exact List.mem_range.1 hc
  rw [List.getD_eq_getElem?_getD, List.getElem?_eq_getElem hc']
  exact hs x hx _ (List.getElem_mem _)
set_option maxHeartbeats 1000000 in
theorem vTurn_good {w : World} {v : Value} {M : List (List Rat)} {n m : Nat} (h : IsM w (Old w) v (rawM M)) (hB : Bru w) (hn : M.length = n) (hrow : ∀ r ∈ M, r.length = m) (hn1 : 1 ≤ n) (hn9 : n ≤ 40) (hm9 : m ≤ 40) (hf : chkM (rawM M) = 0) (hs : ∀ r ∈ M, ∀ q ∈ r, Sz q 1024) :
    Calls Tryz.prog 46 #[v] w fun e w' => (∃ v', e = .returned (.tuple #[v', .int .i64 0]) ∧ IsM w' (Old w') v' (rawM (zdr M m))) ∧ Below w.heap.size w w' := by
  have HM := Lib.hid h
  have HF := Lib.hid hf
  have HB := Lib.hid hB
  have Hs := Lib.hid hs
  have Hrow := Lib.hid hrow
  clear h hf hB hs hrow
  go_enter Tryz.func46, Tryz.ntmps46
  go_wp2_with fail
  refine (form_l HM.out HB.out).mono ?_
  rw [HF.out]
  rintro e w1 ⟨rfl, hb1⟩
  have HB1 := Lib.hid hb1
  clear hb1
  go_wp2_with fail
  refine (turned_l (IsM.stb.next HM.out HB1.out) hn Hrow.out hn1 hn9 hm9).mono ?_
  rintro e w2 ⟨⟨v2, rfl, hv2⟩, hb2⟩
  have V2 := Lib.hid hv2
  have HB2 := Lib.hid (zaa HB1.out hb2)
  clear hv2 hb2
  go_wp2_with fail
  refine (rows_l (M := m) V2.out (zdj M m) (by omega) (fun r hr => by rw [turnQ_row hn r hr]; omega) (fun r hr q hq => (turnQ_sz Hrow.out Hs.out r hr q hq).le (by omega))).mono ?_
  rintro e w3 ⟨⟨v3, rfl, hv3⟩, hb3⟩
  have V3 := Lib.hid (IsM.stb.old hv3)
  have HB3 := Lib.hid (zaa HB2.out hb3)
  clear hv3 hb3
  go_wp2_with fail
  go_ret2
  exact ⟨⟨_, rfl, V3.out⟩, HB3.out⟩
def lineQ (r : List Rat) (N : List (List Rat)) (p : Nat) : List Rat := (zdr N p).map (dotQ r)
def mulQ (M N : List (List Rat)) (p : Nat) : List (List Rat) := M.map fun r => lineQ r N p
theorem mulQ_len (M N : List (List Rat)) (p : Nat) : (mulQ M N p).length = M.length := List.length_map _
theorem lineQ_len (r : List Rat) (N : List (List Rat)) (p : Nat) : (lineQ r N p).length = p := by simp [lineQ, zdj]
theorem mulQ_at {M N : List (List Rat)} {p k : Nat} {r : List Rat} (h : M[k]? = some r) : (mulQ M N p)[k]? = some (lineQ r N p) := by
  unfold mulQ
  rw [List.getElem?_map, h]
  rfl
theorem lineQ_at {N : List (List Rat)} {p k : Nat} {r c : List Rat} (h : (zdr N p)[k]? = some c) : (lineQ r N p)[k]? = some (dotQ r c) := by
  unfold lineQ
  rw [List.getElem?_map, h]
  rfl
set_option maxRecDepth 100000 in
set_option maxHeartbeats 4000000 in
theorem vMul_good {w : World} {v vn : Value} {M N : List (List Rat)} {n m p : Nat} (h : IsM w (Old w) v (rawM M)) (hN : IsM w (Old w) vn (rawM N)) (hB : Bru w) (hn : M.length = n) (hrow : ∀ r ∈ M, r.length = m) (hn1 : 1 ≤ n) (hn9 : n ≤ 40) (hm1 : 1 ≤ m) (hm9 : m ≤ 40) (hNl : N.length = m) (hNr : ∀ r ∈ N, r.length = p) (hp9 : p ≤ 40)
    (hf : chkM (rawM M) = 0) (hfN : chkM (rawM N) = 0) (hs : ∀ r ∈ M, ∀ q ∈ r, Sz q 1024) (hsN : ∀ r ∈ N, ∀ q ∈ r, Sz q 1024) (hfit : ∀ r ∈ mulQ M N p, ∀ q ∈ r, Sz q 1024) :
    Calls Tryz.prog 45 #[v, vn] w fun e w' => (∃ v', e = .returned (.tuple #[v', .int .i64 0]) ∧ IsM w' (Old w') v' (rawM (mulQ M N p))) ∧ Below w.heap.size w w' := by
  have HM := Lib.hid h
  have HN := Lib.hid hN
  have HF := Lib.hid hf
  have HFN := Lib.hid hfN
  have HB := Lib.hid hB
  have Hs := Lib.hid hs
  have HsN := Lib.hid hsN
  have Hrow := Lib.hid hrow
  have HNr := Lib.hid hNr
  have Hfit := Lib.hid hfit
  have Hn := Lib.hid hn
  have HNl := Lib.hid hNl
  have hcol := Lib.hid (col_head hn hn1 hrow)
  obtain ⟨A, cA, rfl, _⟩ := zdg h
  obtain ⟨X, cX, rfl, _⟩ := zdg hN
  have eln : (rawM M).length = n := by rw [zcy]; exact hn
  have elx : (rawM N).length = m := by rw [zcy]; exact hNl
  rw [eln] at HM
  rw [elx] at HN
  rw [eln, elx]
  clear h hN hf hfN hB hs hsN hrow hNr hfit hn hNl eln elx
  go_enter Tryz.func45, Tryz.ntmps45
  go_wp2_with fail
  refine (form_l HM.out HB.out).mono ?_
  rw [HF.out]
  rintro e w1 ⟨rfl, hb1⟩
  have HB1 := Lib.hid hb1
  clear hb1
  go_wp2_with fail
  refine (form_l (IsM.stb.next HN.out HB1.out) (Bru.next HB.out HB1.out)).mono ?_
  rw [HFN.out]
  rintro e w2 ⟨rfl, hb2⟩
  have HB2 := Lib.hid (zaa HB1.out hb2)
  have hn0 : (0 : Int) < (n : Int) := by omega
  clear hb2
  go_wp2_with fail
  refine (columns_l (IsM.stb.next HM.out HB2.out)).mono ?_
  rw [hcol.out]
  rintro e w2' ⟨rfl, rfl⟩
  go_wp2_with fail
  refine (turned_l (n := m) (m := p) (IsM.stb.next HN.out HB2.out) HNl.out HNr.out hm1 hm9 hp9).mono ?_
  rintro e w3 ⟨⟨v3, rfl, hv3⟩, hb3⟩
  obtain ⟨Y, cY, rfl, _⟩ := zdg hv3
  have ely : (rawM (zdr N p)).length = p := by rw [zcy, zdj]
  rw [ely] at hv3 ⊢
  have HT := Lib.hid hv3
  have HB3 := Lib.hid (zaa HB2.out hb3)
  clear hv3 hb3 ely
  go_wp2_with (at_make; refine zcz elV rfl _ _ rfl IsV n rfl rfl rfl (by omega) (base := w3.heap.size) (S := fun _ => False) (Nat.le_refl _) (fun b h => h.elim) ?_; intro v4 w4 hown4 hb4 hz4)
  have HB4 := Lib.hid hb4
  have Hown4 := Lib.hid hown4
  clear hb4 hown4 hz4 hn0
  go_loopw [42, 9, 11, 12, 14] (fun i ov _ _ _ wr => ∃ (k : Nat) (S : Nat → Prop), k ≤ n ∧ i = .int .i64 (k : Int) ∧ Below w3.heap.size w3 wr ∧ Hid (OwnS 1 25 IsV wr w3.heap.size S ov (rawM ((mulQ M N p).take k))) ∧ Hid (∀ b, S b → w3.heap.size ≤ b)) (fun i _ _ _ _ _ => n - (intOf i).toNat)
  case atStart => exact ⟨0, fun _ => False, Nat.zero_le _, rfl, HB4.out, by simpa [rawM, Hid] using Hown4.out, fun b hb => hb.elim⟩
  case round =>
    clear HB4 Hown4
    obtain ⟨wo, hwo⟩ : ∃ x, x = wr := ⟨_, rfl⟩
    obtain ⟨k, S, hk, rfl, hbw, hrel, hS⟩ := hrel
    have Hbw := Lib.hid hbw
    have Hown := Lib.hid hrel.out
    have HS1 := Lib.hid hS.out
    have hszw := hbw.size
    clear hrel hS
    rcases Nat.lt_or_ge k n with hlt | hge
    · obtain ⟨r, hr, hrr⟩ := zee (m := M) (j := k) (by rw [Hn.out]; exact hlt)
      obtain ⟨b1, o1, R, cR, rfl, hSb1, helr, c0⟩ := zda HM.out hrr
      have elr : (rawV r).length = m := by rw [zbp]; exact Hrow.out r (List.mem_of_getElem? hr)
      rw [elr] at c0 helr
      have hww := zaa HB3.out hbw
      replace c0 := hww.cell (p := ⟨b1, o1 + k, none⟩) hSb1 |>.trans c0
      have Vr := Lib.hid (IsV.stb.to helr (zbb hww))
      have VT' := Lib.hid (IsM.stb.next HT.out hbw)
      have HR := Lib.hid (List.mem_of_getElem? hr)
      have Hend : Hid ((mulQ M N p)[k]? = some (lineQ r N p)) := mulQ_at hr
      have Hwr := Lib.hid hww
      have hk0 : (0 : Int) ≤ (k : Int) := by omega
      have hk1 : (k : Int) < (n : Int) := by omega
      have Hhlt := Lib.hid hlt
      clear hr hrr helr elr hbw hSb1 hlt hww
      go_wp2_with (at_make; refine zcz elR rfl _ _ rfl IsR p rfl rfl rfl (by omega) (base := wr.heap.size) (S := fun _ => False) (Nat.le_refl _) (fun b h => h.elim) ?_; intro v5 w5 hown5 hb5 hz5)
      have HB5 := Lib.hid hb5
      have Hown5 := Lib.hid hown5
      clear hb5 hown5 hz5 c0
      rw [← hwo] at HB5 Hown5 Hown Hbw Vr VT' Hwr hszw
      clear hwo
      go_loopw [51, 12, 14] (fun jj lv _ wr => ∃ (j : Nat) (S2 : Nat → Prop), j ≤ p ∧ jj = .int .i64 (j : Int) ∧ Below wo.heap.size wo wr ∧ Hid (OwnS 3 31 IsR wr wo.heap.size S2 lv (rawV ((lineQ r N p).take j))) ∧ Hid (∀ b, S2 b → wo.heap.size ≤ b)) (fun jj _ _ _ => p - (intOf jj).toNat)
      case atStart => exact ⟨0, fun _ => False, Nat.zero_le _, rfl, HB5.out, by simpa [rawV, Hid] using Hown5.out, fun b hb => hb.elim⟩
      case round =>
        clear HB5 Hown5
        obtain ⟨j, S2, hj, rfl, hbi, hrel, hS2⟩ := hrel
        have Hbi := Lib.hid hbi
        have OI := Lib.hid hrel.out
        have HS2 := Lib.hid hS2.out
        have hszi := hbi.size
        clear hrel hS2
        rcases Nat.lt_or_ge j p with hjp | hjp
        · obtain ⟨c, hc, hcc⟩ := zee (m := zdr N p) (j := j) (by rw [zdj]; exact hjp)
          obtain ⟨b2, o2, Cc, cC, rfl, hSb2, helc, d0⟩ := zda VT'.out hcc
          have HC := Lib.hid (List.mem_of_getElem? hc)
          have elc : (rawV c).length = m := by rw [zbp]; exact turnQ_row HNl.out c HC.out
          rw [elc] at d0 helc
          replace d0 := hbi.cell (p := ⟨b2, o2 + j, none⟩) hSb2 |>.trans d0
          have Vc := Lib.hid (IsV.stb.next helc hbi)
          have Vr2 := Lib.hid (IsV.stb.next Vr.out hbi)
          have Hat : Hid ((lineQ r N p)[j]? = some (dotQ r c)) := lineQ_at hc
          have hj0 : (0 : Int) ≤ (j : Int) := by omega
          have hj1 : (j : Int) < (p : Int) := by omega
          have Hjp := Lib.hid hjp
          clear hc hcc helc elc hbi hSb2 hjp
          go_wp2_with fail
          refine (vdot_q (M := m) Vr2.out Vc.out (Bru.next HB.out (zaa Hwr.out Hbi.out)) (Hrow.out r HR.out) (turnQ_row HNl.out c HC.out) hm9 (Hs.out r HR.out) (turnQ_sz HNr.out HsN.out c HC.out)).mono ?_
          rintro e w6 ⟨⟨v6, rfl, hv6⟩, hb6⟩
          obtain ⟨s6, P6, k6, O6, l6, rfl, _, _, _⟩ := zal hv6
          have hown6 := OwnS.step IsR.stb (T := fun b => S2 b ∨ (wr.heap.size ≤ b ∧ b < w6.heap.size)) OI.out hb6 (fun b h => .inl h) (fun b h => h)
          have hel6 := IsQ.stb.to hv6 (zba (T := fun b => S2 b ∨ (wr.heap.size ≤ b ∧ b < w6.heap.size)) fun b h => .inr h)
          have HB6 := Lib.hid (zaa Hbi.out hb6)
          have hbase : wo.heap.size ≤ w6.heap.size := HB6.out.size
          have hjp := Hjp.out
          clear hb6 hv6 d0
          go_wp2_with (at_builtin; refine zcj elR rfl _ _ rfl IsR.stb rfl rfl rfl hown6 hel6 rfl (by intro u hu; simp [Value.cells] at hu; rcases hu with rfl | rfl | rfl <;> rfl) (by have h1 := List.length_take_le j (lineQ r N p); rw [zbp]; omega) hbase ?_; intro v7 w7 hown7 hb7 hz7)
          go_roundw
          case rel =>
            refine ⟨j + 1, fun b => S2 b ∨ (wr.heap.size ≤ b ∧ b < w6.heap.size), hjp, by go_num, HB6.out.trans hb7, ?_, fun b hb => by rcases hb with hb | hb; exact HS2.out b hb; exact Nat.le_trans hszi hb.1⟩
            rw [zcp Hat.out, zdh]
            exact hown7
          case measure => simp [intOf]; omega
        · obtain rfl : j = p := by omega
          have e : (lineQ r N j).take j = lineQ r N j := List.take_of_length_le (by rw [lineQ_len]; exact Nat.le_refl _)
          rw [e] at OI
          obtain ⟨L, cL, hL⟩ := OI.out.slice
          subst hL
          have hel := OwnS.isS IsR.stb (T := fun b => S b ∨ (wo.heap.size ≤ b ∧ b < wr.heap.size)) OI.out (fun b hb => .inr ⟨HS2.out b hb, by obtain ⟨_, _, _, _, h4⟩ := OI.out; exact (h4 b hb).1⟩) (fun b h1 h2 => .inr ⟨h1, h2⟩)
          have hown := OwnS.step IsV.stb (T := fun b => S b ∨ (wo.heap.size ≤ b ∧ b < wr.heap.size)) Hown.out Hbi.out (fun b h => .inl h) (fun b h => h)
          have HBi := Lib.hid (zaa Hbw.out Hbi.out)
          have hbase : w3.heap.size ≤ wr.heap.size := HBi.out.size
          have hlt := Hhlt.out
          clear e hbi
          go_wp2_with (at_builtin; refine zcj elV rfl _ _ rfl IsV.stb rfl rfl rfl hown hel rfl (by intro u hu; simp [Value.cells] at hu; subst hu; rfl) (by have h1 := List.length_take_le k (mulQ M N j); rw [zcy]; omega) hbase ?_; intro v8 w8 hown8 hb8 hz8)
          go_roundw
          case rel =>
            refine ⟨k + 1, fun b => S b ∨ (wo.heap.size ≤ b ∧ b < wr.heap.size), hlt, by go_num, HBi.out.trans hb8, ?_, fun b hb => by rcases hb with hb | hb; exact HS1.out b hb; exact Nat.le_trans hszw hb.1⟩
            rw [zcp Hend.out, rawM, List.map_append]
            exact hown8
          case measure => simp [intOf]; omega
    · obtain rfl : k = n := by omega
      have e : (mulQ M N p).take k = mulQ M N p := List.take_of_length_le (by rw [mulQ_len, Hn.out]; exact Nat.le_refl _)
      rw [e] at Hown
      have hV : IsM wr (Old wr) _ (rawM (mulQ M N p)) := OwnS.isS IsV.stb (T := Old wr) Hown.out (fun b hb => by obtain ⟨_, _, _, _, h4⟩ := Hown.out; exact (h4 b hb).1) (fun b h1 h2 => h2)
      have HVV := Lib.hid hV
      clear hV e hbw hwo
      go_wp2_with fail
      refine (boundedRows_l HVV.out).mono ?_
      rw [bndM_ok Hfit.out]
      rintro e w9 ⟨rfl, hb9⟩
      have HB9 := Lib.hid (zaa (zaa HB3.out Hbw.out) hb9)
      have V9 := Lib.hid (IsM.stb.next HVV.out hb9)
      clear hb9
      go_wp2_with fail
      go_ret2
      exact ⟨⟨_, rfl, V9.out⟩, HB9.out⟩
def zeb (a : List Rat) (y : Rat) : List Rat := a.map (· * y)
theorem scaleQ_len (a : List Rat) (y : Rat) : (zeb a y).length = a.length := List.length_map _
theorem scaleQ_at {a : List Rat} {y x : Rat} {k : Nat} (h : a[k]? = some x) : (zeb a y)[k]? = some (x * y) := by
  unfold zeb
  rw [List.getElem?_map, h]
  rfl
def scaleE (a : List Raw) (r : Raw) : Int := if chkV a ≠ 0 then chkV a else chkQ r
theorem scaleE_zero {a : List Raw} {r : Raw} (h : scaleE a r = 0) : chkV a = 0 ∧ chkQ r = 0 := by
  unfold scaleE at h
  split at h
  · rename_i h1; exact absurd h h1
  · rename_i h1; exact ⟨Decidable.not_not.1 h1, h⟩
set_option maxRecDepth 100000 in
set_option maxHeartbeats 4000000 in
theorem vScale_good {w : World} {va vx : Value} {a : List Rat} {y : Rat} {M : Nat} (ha : IsV w (Old w) va (rawV a)) (hx : IsQ w (Old w) vx y) (hB : Bru w) (h0 : scaleE (rawV a) (raw y) = 0) (hla : a.length = M) (hM : M ≤ 40) (sa : ∀ q ∈ a, Sz q 1024) (sy : Sz y 1024) (hs : ∀ q ∈ zeb a y, Sz q 1024) :
    Calls Tryz.prog 37 #[va, vx] w fun e w' => (∃ v, e = .returned (.tuple #[v, .int .i64 0]) ∧ IsV w' (Old w') v (rawV (zeb a y))) ∧ Below w.heap.size w w' := by
  have HA := Lib.hid ha
  have HX := Lib.hid hx
  have HB := Lib.hid hB
  have HE := Lib.hid (scaleE_zero h0)
  have Hs := Lib.hid hs
  have Hla := Lib.hid hla
  have Hsa := Lib.hid sa
  have Hsy : Hid (Sz y 100000) := sy.le (by omega)
  obtain ⟨A, cA, rfl, _⟩ := zby ha
  have ela : (rawV a).length = M := by simp [rawV, hla]
  rw [ela] at HA
  rw [ela]
  obtain ⟨Y1, Y2, Y3, Y4, rfl, _, _⟩ := (show IsR w (Old w) vx (raw y) from hx)
  obtain ⟨y0, hy0⟩ : ∃ s, s = (raw y).neg := ⟨_, rfl⟩
  obtain ⟨y1, hy1⟩ : ∃ s, s = (raw y).num.length := ⟨_, rfl⟩
  obtain ⟨y2, hy2⟩ : ∃ s, s = (raw y).den.length := ⟨_, rfl⟩
  rw [← hy0, ← hy1, ← hy2] at HX ⊢
  obtain ⟨w0, hw0, hb0, rX, Hz0⟩ := zbq w #[.bool y0, .slice Y1 y1 Y2, .slice Y3 y2 Y4] 31
  have HB0 := Lib.hid hb0
  have RX := Lib.hid rX
  clear ha hx h0 hla sa hs ela hy0 hy1 hy2 rX hb0 hB
  go_enter Tryz.func37, Tryz.ntmps37
  go_wp2_with fail
  clear hw0
  refine (vcheck_l (IsV.stb.next HA.out HB0.out) (Bru.next HB.out HB0.out)).mono ?_
  rw [HE.out.1]
  rintro e w1 ⟨rfl, hb1⟩
  have HB1 := Lib.hid (zaa HB0.out hb1)
  have RX1 := Lib.hid (RX.out.next hb1)
  obtain ⟨c0, c1, c2⟩ := zac RX1.out
  clear hb1
  go_wp2_with fail
  refine (check_q (r := raw y) (IsQ.stb.next HX.out HB1.out) (Bru.next HB.out HB1.out)).mono ?_
  rw [HE.out.2]
  rintro e w2 ⟨rfl, hb2⟩
  have HB2 := Lib.hid (zaa HB1.out hb2)
  have RX2 := Lib.hid (RX1.out.next hb2)
  have hz2 := RX2.out.lt
  clear hb2 c0 c1 c2
  go_wp2_with (at_make; refine zcz elR rfl _ _ rfl IsR M rfl rfl rfl (by omega) (base := w2.heap.size) (S := fun _ => False) (Nat.le_refl _) (fun b h => h.elim) ?_; intro v3 w3 hown3 hb3 hz3)
  have HB3 := Lib.hid (zaa HB2.out hb3)
  have RX3 := Lib.hid (RX2.out.next hb3)
  have Hown3 := Lib.hid hown3
  have Hz3 : Hid (w2.heap.size ≤ w3.heap.size) := hz3
  clear hb3 hown3 hz3
  go_loopw [26, 8, 10] (fun i ov _ wr => ∃ (k : Nat) (S : Nat → Prop), k ≤ M ∧ i = .int .i64 (k : Int) ∧ Below w.heap.size w wr ∧ Row wr w.heap.size 31 [.bool y0, .slice Y1 y1 Y2, .slice Y3 y2 Y4] ∧ Hid (OwnS 3 31 IsR wr w2.heap.size S ov (rawV ((zeb a y).take k))) ∧ Hid (∀ b, S b → w2.heap.size ≤ b) ∧ Hid (w2.heap.size ≤ wr.heap.size)) (fun i _ _ _ => M - (intOf i).toNat)
  case atStart => exact ⟨0, fun _ => False, Nat.zero_le _, rfl, HB3.out, RX3.out, by simpa [rawV, Hid] using Hown3.out, fun b hb => hb.elim, Hz3.out⟩
  case round =>
    obtain ⟨k, S, hk, rfl, hbw, hrow, hrel, hS, hzw⟩ := hrel
    have Hbw := Lib.hid hbw
    have HRw := Lib.hid hrow
    have Hown := Lib.hid hrel.out
    have HS1 := Lib.hid hS.out
    have hszw := hbw.size
    have hlt1 := hrow.lt
    obtain ⟨d0, d1, d2⟩ := zac hrow
    clear hrel hS hrow
    rcases Nat.lt_or_ge k M with hlt | hge
    · obtain ⟨x, hx, hrx⟩ := zct (l := a) (j := k) (by rw [Hla.out]; exact hlt)
      obtain ⟨b1, o1, X1, X2, X3, X4, rfl, hSb1, helx, c0, c1, c2⟩ := zcu HA.out hrx
      obtain ⟨x0, hx0⟩ : ∃ s, s = (raw x).neg := ⟨_, rfl⟩
      obtain ⟨x1, hx1⟩ : ∃ s, s = (raw x).num.length := ⟨_, rfl⟩
      obtain ⟨x2, hx2⟩ : ∃ s, s = (raw x).den.length := ⟨_, rfl⟩
      rw [← hx0] at c0
      rw [← hx1] at c1
      rw [← hx2] at c2
      rw [← hx0, ← hx1, ← hx2] at helx
      replace c0 := hbw.cell (p := ⟨b1, o1 + k * 3, none⟩) hSb1 |>.trans c0
      replace c1 := hbw.cell (p := ⟨b1, o1 + k * 3 + 1, none⟩) hSb1 |>.trans c1
      replace c2 := hbw.cell (p := ⟨b1, o1 + k * 3 + 2, none⟩) hSb1 |>.trans c2
      have Qx := Lib.hid (IsQ.stb.to (zek helx) (zbb hbw))
      have Qy := Lib.hid (IsQ.stb.next HX.out hbw)
      obtain ⟨z, hz⟩ : ∃ z, z = x * y := ⟨_, rfl⟩
      have Hz := Lib.hid hz
      have Hend : Hid ((zeb a y)[k]? = some z) := by rw [Hid, hz]; exact scaleQ_at hx
      have Hsx : Hid (Sz x 100000) := (Hsa.out x (List.mem_of_getElem? hx)).le (by omega)
      have cr := zbs
      have hk0 : (0 : Int) ≤ (k : Int) := by omega
      have hk1 : (k : Int) < (M : Int) := by omega
      obtain ⟨wx, hwx, hbx, rx, hzx⟩ := zbq wr #[.bool x0, .slice X1 x1 X2, .slice X3 x2 X4] 31
      have BX := Lib.hid hbx
      obtain ⟨g0, g1, g2⟩ := zac rx
      have d0 := zad hbx d0
      have d1 := zad hbx d1
      have d2 := zad hbx d2
      have Hhlt := Lib.hid hlt
      clear hx hrx helx hx0 hx1 hx2 hz hbw rx hzx hbx hSb1 hlt
      go_wp2_with fail
      clear hwx c0 c1 c2
      refine (times_q (IsQ.stb.next Qx.out BX.out) (IsQ.stb.next Qy.out BX.out) (Bru.next HB.out (zaa Hbw.out BX.out)) Hsx.out Hsy.out Hz.out).mono ?_
      rintro e w5 ⟨⟨v5, rfl, hv5⟩, hb5⟩
      obtain ⟨s5, P5, k5, O5, l5, rfl, _, _, _⟩ := zal hv5
      have BB5 := Lib.hid (zaa BX.out hb5)
      have hown5 := OwnS.step IsR.stb (T := fun b => S b ∨ (wr.heap.size ≤ b ∧ b < w5.heap.size)) Hown.out BB5.out (fun b h => .inl h) (fun b h => h)
      have hel5 := IsQ.stb.to hv5 (zba (T := fun b => S b ∨ (wr.heap.size ≤ b ∧ b < w5.heap.size)) fun b h => .inr ⟨Nat.le_trans BX.out.size h.1, h.2⟩)
      have HB5 := Lib.hid (zaa Hbw.out BB5.out)
      have hbase : w2.heap.size ≤ w5.heap.size := Nat.le_trans hzw.out BB5.out.size
      have hlt := Hhlt.out
      clear hb5 hv5 g0 g1 g2 d0 d1 d2
      go_wp2_with (at_builtin; refine zcj elR rfl _ _ rfl IsR.stb rfl rfl rfl hown5 hel5 rfl (by intro u hu; simp [Value.cells] at hu; rcases hu with rfl | rfl | rfl <;> rfl) (by have h1 := List.length_take_le k (zeb a y); rw [zbp]; omega) hbase ?_; intro v6 w6 hown6 hb6 hz6)
      go_roundw
      case rel =>
        refine ⟨k + 1, fun b => S b ∨ (wr.heap.size ≤ b ∧ b < w5.heap.size), hlt, by go_num, HB5.out.trans (hb6.mono (Nat.le_of_lt hz2)), Row.below (Row.next HRw.out BB5.out) hb6 hz2, ?_, fun b hb => by rcases hb with hb | hb; exact HS1.out b hb; exact Nat.le_trans hzw.out hb.1, by rw [Hid]; omega⟩
        rw [zcp Hend.out, zdh]
        exact hown6
      case measure => simp [intOf]; omega
    · obtain rfl : k = M := by omega
      have e : (zeb a y).take k = zeb a y := List.take_of_length_le (by rw [scaleQ_len, Hla.out]; exact Nat.le_refl _)
      rw [e] at Hown
      have hV : IsV wr (Old wr) _ (rawV (zeb a y)) := OwnS.isS IsR.stb (T := Old wr) Hown.out (fun b hb => by obtain ⟨_, _, _, _, h4⟩ := Hown.out; exact (h4 b hb).1) (fun b h1 h2 => h2)
      have HVV := Lib.hid hV
      clear hV e hbw d0 d1 d2
      go_wp2_with fail
      refine (zfq HVV.out).mono ?_
      rw [bndV_ok Hs.out]
      rintro e w9 ⟨rfl, hb9⟩
      have HB9 := Lib.hid (zaa Hbw.out hb9)
      have V9 := Lib.hid (IsV.stb.next HVV.out hb9)
      clear hb9
      go_wp2_with fail
      go_ret2
      exact ⟨⟨_, rfl, V9.out⟩, HB9.out⟩
set_option maxHeartbeats 400000 in
theorem rtrim_same (A : Option Addr) (c : Nat) (l : List Nat) (w : World) (lo hi : Nat) (hl : Lo l) (hll : l.length ≤ c) (hlc : c ≤ maxLen) (hA : SV w lo hi A (cel .u32 l)) :
    Calls Tryz.prog 145 #[.slice A l.length c] w fun e w' => (∃ m, e = .returned (.slice A m c) ∧ m ≤ l.length ∧ lim (val l) = l.take m) ∧ w = w' := by
  have Hlc2 := Lib.hid hlc
  unfold maxLen at hlc
  have Hl := Lib.hid hl; clear hl
  go_enter Tryz.func145, Tryz.ntmps145
  go_wp2
  go_loop [0] (fun s => ∃ m : Nat, m ≤ l.length ∧ s = .slice A m c ∧ Hid (∀ j, m ≤ j → j < l.length → l.getD j 0 = 0)) (fun s => match s with | .slice _ m _ => m | _ => 0)
  case atStart => exact ⟨l.length, Nat.le_refl _, rfl, Lib.hid (by intro j h1 h2; omega)⟩
  case round =>
    obtain ⟨m, hm, rfl, hz⟩ := hrel
    rcases m with _ | m
    · go_wp2
      go_ret
      exact ⟨⟨0, rfl, Nat.zero_le _, trim_to Hl.out (Nat.zero_le _) hz.out (.inl rfl)⟩, rfl⟩
    · obtain ⟨ba, oa, rfl, _, _, hca⟩ := hA (zbk hm)
      obtain ⟨x, hx, hx0, hxc⟩ := zdx (j := m) hca (by omega)
      clear hca
      by_cases h0 : x = 0
      · subst h0
        go_wp2
        go_round
        case rel => exact ⟨m, by omega, rfl, Lib.hid (by
          intro j h1 h2
          rcases Nat.eq_or_lt_of_le h1 with h3 | h3
          · subst h3; have := hx.out; omega
          · exact hz.out j h3 h2)⟩
        case measure => simp
      · have hb : (x == 0) = false := by simpa using h0
        go_wp2
        go_ret
        exact ⟨⟨m + 1, rfl, hm, trim_to Hl.out hm hz.out (.inr (by have := hx.out; simp only [Nat.add_sub_cancel]; omega))⟩, rfl⟩
theorem rtrim_list (A : Option Addr) (c : Nat) (l : List Nat) (w : World) (lo hi : Nat) (hl : Lo l) (hll : l.length ≤ c) (hlc : c ≤ maxLen) (hA : SV w lo hi A (cel .u32 l)) :
    Calls Tryz.prog 145 #[.slice A l.length c] w fun e w' => (∃ v, e = .returned v ∧ IsN w lo hi v (val l)) ∧ w = w' :=
  (rtrim_same A c l w lo hi hl hll hlc hA).mono fun e w' ⟨⟨m, he, hm, ht⟩, hw⟩ => ⟨⟨_, he, A, c, by rw [ht, List.length_take, Nat.min_eq_left hm], by rw [ht, List.length_take]; omega, hlc, by rw [ht, cel_take]; exact hA.take m⟩, hw⟩
theorem rtrim_l {w : World} {va : Value} {l : List Nat} {lo hi : Nat} (ha : IsL .u32 w lo hi va l) (hl : Lo l) :
    Calls Tryz.prog 145 #[va] w fun e w' => (∃ v, e = .returned v ∧ IsN w lo hi v (val l)) ∧ w = w' := by
  obtain ⟨A, c, rfl, hc, hcm, hA⟩ := ha
  exact rtrim_list A c l w lo hi hl hc hcm hA
set_option maxRecDepth 100000 in
set_option maxHeartbeats 1000000 in
theorem rplus_n {w : World} {va vb : Value} {x y : Nat} {lo hi lo' hi' : Nat} (ha : IsN w lo hi va x) (hb : IsN w lo' hi' vb y) (hi1 : hi ≤ w.heap.size) (hi2 : hi' ≤ w.heap.size) (hx : (lim x).length ≤ 4294967296) (hy : (lim y).length ≤ 4294967296) :
    Calls Tryz.prog 97 #[va, vb] w fun e w' => (∃ v, e = .returned v ∧ IsN w' w.heap.size w'.heap.size v (x + y)) ∧ Below w.heap.size w w' := by
  obtain ⟨A, c, rfl, _, _, hA⟩ := ha
  obtain ⟨B, d, rfl, _, _, hB⟩ := hb
  obtain ⟨M, hM1, hM2, hM3⟩ : ∃ M : Nat, (lim x).length ≤ M ∧ (lim y).length ≤ M ∧ (M = (lim x).length ∨ M = (lim y).length) := ⟨max (lim x).length (lim y).length, by omega, by omega, by omega⟩
  have hM : Hid (∀ k, k < M → pw k ≤ x + y) := by
    intro k hk
    rcases hM3 with h | h
    · have := zeu (x := x) (k := k) (by omega); omega
    · have := zeu (x := y) (k := k) (by omega); omega
  generalize hla : lim x = a at *
  generalize hlb : lim y = b at *
  have Hal : Hid (Lo a ∧ val a = x) := by rw [Hid, ← hla]; exact ⟨zbi x, zbg x⟩
  have Hbl : Hid (Lo b ∧ val b = y) := by rw [Hid, ← hlb]; exact ⟨zbi y, zbg y⟩
  have hM4 : M ≤ 4294967296 := by omega
  clear hla hlb hM3
  generalize hBs : w.heap.size = bs at *
  have HB := Lib.hid hBs; clear hBs
  go_enter Tryz.func97, Tryz.ntmps97
  go_wp2
  go_loopw [5, 6, 7] (fun v cy i wr => ∃ (k : Nat) (L : List Nat) (q : Int), k ≤ M + 1 ∧ i = .int .i64 (k : Int) ∧ cy = .int .u32 q ∧ 0 ≤ q ∧ q ≤ 1 ∧ Own wr bs 103 v (cel .u32 L) ∧ Below bs w wr ∧
      Hid (L.length = k ∧ Lo L ∧ (val L : Int) + q * pw k = val (a.take k) + val (b.take k) ∧ (M < k → q = 0 ∧ pw M ≤ val L))) (fun _ _ i _ => M + 1 - (intOf i).toNat)
  case atStart => exact ⟨0, [], 0, by omega, rfl, rfl, by omega, by omega, Own.nil _ _ _, Below.refl _ _, rfl, lo_nil, by simp [val], fun h => by omega⟩
  case round =>
    obtain ⟨k, L, q, hk, rfl, rfl, hq0, hq1, hown, hbw, hrel⟩ := hrel
    have hBw : bs ≤ wr.heap.size := by have := hbw.size; have := HB.out; omega
    have hkc : k ≤ 4294967297 := by omega
    have hlen : Hid ((cel .u32 L).length ≤ 4294967297) := by rw [Hid, zbl, hrel.out.1]; omega
    rcases Nat.lt_or_ge k a.length with hka | hka
    · obtain ⟨ba, oa, rfl, _, _, hca⟩ := (hA.below hbw hi1) (zbk (j := k) hka)
      obtain ⟨x1, hx1, hx10, hx11, hx1c⟩ := zbj (j := k) Hal.out.1 hca hka
      clear hca
      rcases Nat.lt_or_ge k b.length with hkb | hkb
      · obtain ⟨bb, ob, rfl, _, _, hcb⟩ := (hB.below hbw hi2) (zbk (j := k) hkb)
        obtain ⟨y1, hy1, hy10, hy11, hy1c⟩ := zbj (j := k) Hbl.out.1 hcb hkb
        clear hcb
        go_wp2_with (at_builtin; refine zcg elN rfl _ _ rfl rfl hown rfl rfl (by have := hlen.out; omega) hBw ?_; intro v1 w1 hown1 hbw1 hz1)
        go_roundw
        case rel =>
          rw [zbt .u32 L ((q + x1 + y1) % 1000000000).toNat _ (by omega)] at hown1
          exact ⟨k + 1, _, (q + x1 + y1) / 1000000000, by omega, by go_num, rfl, by omega, by omega, hown1, hbw.trans hbw1, by rw [List.length_append]; simp [hrel.out.1], zcm hrel.out.2.1 (by omega), zck hrel.out.1 hx1.out hy1.out (by omega) (by omega) hrel.out.2.2.1, fun h => by omega⟩
        case measure => simp [intOf]; omega
      · go_wp2_with (at_builtin; refine zcg elN rfl _ _ rfl rfl hown rfl rfl (by have := hlen.out; omega) hBw ?_; intro v1 w1 hown1 hbw1 hz1)
        go_roundw
        case rel =>
          rw [zbt .u32 L ((q + x1) % 1000000000).toNat _ (by omega)] at hown1
          exact ⟨k + 1, _, (q + x1) / 1000000000, by omega, by go_num, rfl, by omega, by omega, hown1, hbw.trans hbw1, by rw [List.length_append]; simp [hrel.out.1], zcm hrel.out.2.1 (by omega), zck (y := 0) hrel.out.1 hx1.out (by rw [zcc hkb]; rfl) (by omega) (by omega) hrel.out.2.2.1, fun h => by omega⟩
        case measure => simp [intOf]; omega
    · rcases Nat.lt_or_ge k b.length with hkb | hkb
      · obtain ⟨bb, ob, rfl, _, _, hcb⟩ := (hB.below hbw hi2) (zbk (j := k) hkb)
        obtain ⟨y1, hy1, hy10, hy11, hy1c⟩ := zbj (j := k) Hbl.out.1 hcb hkb
        clear hcb
        go_wp2_with (at_builtin; refine zcg elN rfl _ _ rfl rfl hown rfl rfl (by have := hlen.out; omega) hBw ?_; intro v1 w1 hown1 hbw1 hz1)
        go_roundw
        case rel =>
          rw [zbt .u32 L ((q + y1) % 1000000000).toNat _ (by omega)] at hown1
          exact ⟨k + 1, _, (q + y1) / 1000000000, by omega, by go_num, rfl, by omega, by omega, hown1, hbw.trans hbw1, by rw [List.length_append]; simp [hrel.out.1], zcm hrel.out.2.1 (by omega), zck (x := 0) hrel.out.1 (by rw [zcc hka]; rfl) hy1.out (by omega) (by omega) hrel.out.2.2.1, fun h => by omega⟩
        case measure => simp [intOf]; omega
      · have hV : Hid ((val L : Int) + q * pw k = x + y) := by
          have := hrel.out.2.2.1
          rw [zax hka, zax hkb, Hal.out.2, Hbl.out.2] at this
          exact this
        rcases Int.lt_or_le 0 q with hqp | hqz
        · have hkM : k ≤ M := by
            rcases Nat.lt_or_ge M k with h | h
            · have := hrel.out.2.2.2 h; omega
            · exact h
          go_wp2_with (at_builtin; refine zcg elN rfl _ _ rfl rfl hown rfl rfl (by have := hlen.out; omega) hBw ?_; intro v1 w1 hown1 hbw1 hz1)
          go_roundw
          case rel =>
            rw [zbt .u32 L (q % 1000000000).toNat _ (by omega)] at hown1
            refine ⟨k + 1, _, q / 1000000000, by omega, by go_num, rfl, by omega, by omega, hown1, hbw.trans hbw1, by rw [List.length_append]; simp [hrel.out.1], zcm hrel.out.2.1 (by omega), zck (x := 0) (y := 0) hrel.out.1 (by rw [zcc hka]; rfl) (by rw [zcc hkb]; rfl) (by omega) (by omega) hrel.out.2.2.1, fun h => ⟨by omega, ?_⟩⟩
            rw [zbu, hrel.out.1, show (q % 1000000000).toNat = 1 from by omega, show k = M from by omega, zex, zeo]
            omega
          case measure => simp [intOf]; omega
        · obtain rfl : q = 0 := by omega
          have hfin : Hid (lim (x + y) = L) := by
            have h1 : val L = x + y := by have := hV.out; omega
            rw [Hid, ← h1]
            refine zeg hrel.out.2.1 ?_
            rcases Nat.lt_or_ge M k with h | h
            · exact .inr (by rw [hrel.out.1, show k - 1 = M from by omega]; exact (hrel.out.2.2.2 h).2)
            · rcases Nat.eq_zero_or_pos k with h0 | h0
              · exact .inl (List.eq_nil_of_length_eq_zero (by rw [hrel.out.1]; exact h0))
              · exact .inr (by rw [hrel.out.1, h1]; exact hM.out (k - 1) (by omega))
          go_wp2
          go_ret
          refine ⟨⟨_, rfl, ?_⟩, hbw⟩
          unfold IsN
          rw [hfin.out]
          exact Own.isL hown
set_option maxRecDepth 100000 in
set_option maxHeartbeats 1000000 in
theorem zef {w : World} {va vb : Value} {x y : Nat} {lo hi lo' hi' : Nat} (ha : IsN w lo hi va x) (hb : IsN w lo' hi' vb y) (hi1 : hi ≤ w.heap.size) (hi2 : hi' ≤ w.heap.size) (hx : (lim x).length ≤ 4294967296) (hy : (lim y).length ≤ 4294967296) :
    Calls Tryz.prog 95 #[va, vb] w fun e w' => (∃ v, e = .returned v ∧ IsN w' w.heap.size w'.heap.size v (x * y)) ∧ Below w.heap.size w w' := by
  obtain ⟨A, c, rfl, _, _, hA⟩ := ha
  obtain ⟨B, d, rfl, _, _, hB⟩ := hb
  generalize hla : lim x = a at *
  generalize hlb : lim y = b at *
  have Hal : Hid (Lo a ∧ val a = x) := by rw [Hid, ← hla]; exact ⟨zbi x, zbg x⟩
  have Hbl : Hid (Lo b ∧ val b = y) := by rw [Hid, ← hlb]; exact ⟨zbi y, zbg y⟩
  clear hla hlb
  go_enter Tryz.func95, Tryz.ntmps95
  go_wp2_with (at_make; refine wp_make elN rfl _ _ rfl (a.length + b.length) rfl rfl rfl rfl (by omega) ?_; intro G w1 hG hrow hb1 hz1)
  go_loopw [6] (fun i wr => ∃ k : Nat, ∃ L : List Nat, k ≤ a.length ∧ i = .int .i64 (k : Int) ∧ Row wr G 103 (cel .u32 L) ∧ Below G w wr ∧ Hid (wr.heap.size = G + 1) ∧
      Hid (L.length = a.length + b.length ∧ Lo L ∧ (∀ j, k + b.length ≤ j → L.getD j 0 = 0) ∧ val L = val (a.take k) * val b)) (fun i _ => a.length - (intOf i).toNat)
  case atStart => exact ⟨0, _, Nat.zero_le _, rfl, hrow, hb1, hz1, by simp, zch _, fun j _ => by rw [List.getD_eq_getElem?_getD, List.getElem?_replicate]; split <;> rfl, by rw [val_nil_take, Nat.zero_mul]; exact val_zeros (fun x hx => (List.mem_replicate.1 hx).2)⟩
  case round =>
    obtain ⟨k, L, hk, rfl, hr, hbw, hsz, hrel⟩ := hrel
    have hbw' : Below w.heap.size w wr := by have := hG.out; subst this; exact hbw
    rcases Nat.lt_or_ge k a.length with hlt | hge
    · obtain ⟨ba, oa, rfl, _, _, _⟩ := hA (zbk (j := k) hlt)
      have HR := hrel; clear hrel
      obtain ⟨wo, rfl⟩ : ∃ wo : World, wo = wr := ⟨_, rfl⟩
      go_wp2
      go_loopw [7, 8] (fun cr i wi => ∃ j : Nat, ∃ M : List Nat, ∃ cy : Int, j ≤ b.length ∧ i = .int .i64 (j : Int) ∧ cr = .int .u64 cy ∧ 0 ≤ cy ∧ cy ≤ 999999999 ∧ Row wi G 103 (cel .u32 M) ∧ Below G w wi ∧ Hid (wi.heap.size = G + 1) ∧
          Hid (M.length = a.length + b.length ∧ Lo M ∧ (∀ j, k + b.length ≤ j → M.getD j 0 = 0) ∧ (val M : Int) + cy * pw (k + j) = val L + ((a.getD k 0 : Nat) : Int) * pw k * val (b.take j))) (fun _ i _ => b.length - (intOf i).toNat)
      case atStart => exact ⟨0, L, 0, Nat.zero_le _, rfl, rfl, by omega, by omega, hr, hbw, hsz, HR.out.1, HR.out.2.1, HR.out.2.2.1, by simp [val]⟩
      case round =>
        clear hr hbw hbw' hsz
        obtain ⟨j, M, cy, hj, rfl, rfl, hcy0, hcy1, hr, hbw, hsz, hrel⟩ := hrel
        have hbw' : Below w.heap.size w wr := by have := hG.out; subst this; exact hbw
        have hkM : Hid (k + b.length < M.length) := by rw [hrel.out.1]; unfold Hid; omega
        rcases Nat.lt_or_ge j b.length with hjl | hjg
        · obtain ⟨x, hx, hx0, hx1, hxc⟩ := zbj (j := k) Hal.out.1 (hA.below hbw' hi1).at_ hlt
          obtain ⟨bb, ob, rfl, _, _, hcb⟩ := (hB.below hbw' hi2) (zbk (j := j) hjl)
          obtain ⟨y, hy, hy0, hy1, hyc⟩ := zbj (j := j) Hbl.out.1 hcb hjl
          clear hcb
          obtain ⟨z, hz, hz0, hz1, hzc⟩ := hr.lo hrel.out.2.1 (i := k + j) (by have := hkM.out; omega)
          have hzf := hr.frozen (k + j)
          have hxy := zca hx0 hx1 hy0 hy1
          have hxy0 := hxy.1
          have hxy1 := hxy.2
          clear hxy
          go_wp2
          go_quiet (fail)
          go_wp2
          go_roundw
          case rel =>
            refine ⟨j + 1, M.set (k + j) ((cy + z + x * y) % 1000000000).toNat, (cy + z + x * y) / 1000000000, by omega, by go_num, rfl, by omega, by omega, (hr.drewN _).setNum (k + j) _ _ (by omega), (below_drewN hbw _).setCell (Nat.le_refl _) _,
              by have := hsz.out; simpa [Hid, World.setCell] using this, by rw [List.length_set]; exact hrel.out.1, zbz hrel.out.2.1 (by omega), fun i hi => by rw [zbo (by omega)]; exact hrel.out.2.2.1 i hi, ?_⟩
            rw [← hx.out]
            exact mul_step (by have := hkM.out; omega) hy.out hz.out (t := cy + z + x * y) (c := cy) (c' := (cy + z + x * y) / 1000000000) (r := (cy + z + x * y) % 1000000000) (by omega) (by omega) (by omega) (by rw [hx.out]; exact hrel.out.2.2.2)
          case measure => simp [intOf]; omega
        · obtain rfl : j = b.length := by omega
          obtain ⟨z, hz, hz0, hzc⟩ := hr.num (i := k + b.length) hkM.out
          have hzf := hr.frozen (k + b.length)
          go_wp2
          go_roundw
          case rel =>
            exact ⟨k + 1, M.set (k + b.length) cy.toNat, by omega, by go_num, hr.setNum (k + b.length) _ _ (by omega), hbw.setCell (Nat.le_refl _) _,
              by have := hsz.out; simpa [Hid, World.setCell] using this, by rw [List.length_set]; exact hrel.out.1, zbz hrel.out.2.1 (by omega), fun i hi => by rw [zbo (by omega)]; exact hrel.out.2.2.1 i (by omega),
              mul_row rfl hkM.out rfl (hrel.out.2.2.1 _ (Nat.le_refl _)) hcy0 HR.out.2.2.2 hrel.out.2.2.2⟩
          case measure => simp [intOf]; omega
    · obtain rfl : k = a.length := by omega
      have H1 : Hid (Row wr G 103 (cel .u32 L) ∧ val L = x * y ∧ L.length = a.length + b.length ∧ Lo L) := ⟨hr, by have := hrel.out.2.2.2; rw [zax (Nat.le_refl _), Hal.out.2, Hbl.out.2] at this; exact this, hrel.out.1, hrel.out.2.1⟩
      clear hr hrel
      go_wp2_with fail
      rw [← H1.out.2.2.1]
      refine (rtrim_list _ _ L wr G (G + 1) H1.out.2.2.2 (Nat.le_refl _) (by have := H1.out.2.2.1; unfold maxLen; omega) H1.out.1.sv).mono ?_
      rintro e w2 ⟨⟨v, rfl, hv⟩, rfl⟩
      go_wp2_with fail
      go_ret
      refine ⟨⟨_, rfl, ?_⟩, hbw'⟩
      rw [← H1.out.2.1]
      exact hv.wide (by have := hG.out; omega) (by have := hsz.out; omega)
end Go.Proofs.YtblpaocignlpkaaGreatDoor
