/-
  One number more in a list.
-/
import Derived.Test.YtblpaocignlpkaaDoorVkn07
import Derived.Test.YtblpaocignlpkaaDoorVkn18
import Derived.Test.YtblpaocignlpkaaDoorVkn10
import Derived.Test.YtblpaocignlpkaaDoorVkn09
import Derived.Test.YtblpaocignlpkaaDoorVkn01
namespace Go.Proofs.YtblpaocignlpkaaDoor
theorem zeu (l : List Rat) (x : Rat) : rawV (l ++ [x]) = rawV l ++ [raw x] := by simp [rawV]
end Go.Proofs.YtblpaocignlpkaaDoor
namespace Go.Proofs.YtblpaocignlpkaaDoor
open Go.RowKit
set_option linter.unusedVariables false
def addQ (a b : List Rat) : List Rat := List.zipWith (· + ·) a b
theorem addQ_len {a b : List Rat} {M : Nat} (ha : a.length = M) (hb : b.length = M) : (addQ a b).length = M := by simp [addQ, ha, hb]
theorem addQ_at {a b : List Rat} {k : Nat} {x y : Rat} (hx : a[k]? = some x) (hy : b[k]? = some y) : (addQ a b)[k]? = some (x + y) := by
  unfold addQ
  rw [List.getElem?_zipWith, hx, hy]
theorem bndV_ok {v : Value} {l : List Rat} (h : ∀ q ∈ l, Sz q 1024) : bndV v l = .returned (.tuple #[v, .int .i64 0]) := by
  unfold bndV
  have e : l.all fitsQ = true := List.all_eq_true.2 fun q hq => fitsQ_true.2 (h q hq)
  rw [e]
  rfl
set_option maxRecDepth 100000 in
set_option maxHeartbeats 2000000 in
theorem add1_l {w : World} {v vx vy : Value} {base : Nat} {S : Nat → Prop} {l : List Raw} {qx qy qz : Rat} (ho : OwnS 3 50 IsR w base S v l) (hbase : base ≤ w.heap.size) (hx : IsQ w (Old w) vx qx) (hy : IsQ w (Old w) vy qy) (hB : Bru w) (sx : Sz qx 100000) (sy : Sz qy 100000) (hl : l.length ≤ 1000) (hz : qz = qx + qy) :
    Calls Tryd.prog 88 #[v, vx, vy] w fun e w' => (∃ v' S', e = .returned v' ∧ OwnS 3 50 IsR w' base S' v' (l ++ [raw qz]) ∧ ∀ b, S' b → S b ∨ w.heap.size ≤ b) ∧ Below base w w' := by
  have HO := Lib.hid ho
  have HX := Lib.hid hx
  have HY := Lib.hid hy
  have HB := Lib.hid hB
  have Hz := Lib.hid hz
  obtain ⟨x0, X1, X2, X3, X4, rfl, _, _, _⟩ := zai hx
  obtain ⟨y0, Y1, Y2, Y3, Y4, rfl, _, _, _⟩ := zai hy
  obtain ⟨w0, hw0, hb0, rX, rY, Hz0⟩ := zej w #[.bool x0, .slice X1 (lim qx.num.natAbs).length X2, .slice X3 (lim qx.den).length X4] #[.bool y0, .slice Y1 (lim qy.num.natAbs).length Y2, .slice Y3 (lim qy.den).length Y4] 50 50
  have HB0 := Lib.hid hb0
  have QX := Lib.hid (IsQ.stb.next HX.out hb0)
  have QY := Lib.hid (IsQ.stb.next HY.out hb0)
  obtain ⟨c0, c1, c2⟩ := zad rX
  obtain ⟨d0, d1, d2⟩ := zad rY
  clear rX rY hb0 ho hx hy hB hz
  go_enter Tryd.func88, Tryd.ntmps88
  go_wp2_with fail
  clear hw0
  refine (plus_q QX.out QY.out (Bru.next HB.out HB0.out) sx sy Hz.out).mono ?_
  rintro e w2 ⟨⟨v2, rfl, hv2⟩, hb⟩
  have Hb2 := Lib.hid (zaa HB0.out hb)
  have Hv2 := Lib.hid hv2
  have hsz := Hb2.out.size
  have hsz0 := HB0.out.size
  have hbs : base ≤ w2.heap.size := Nat.le_trans hbase hsz
  obtain ⟨s2, P2, k2, O2, l2, rfl, _, _, _⟩ := zai hv2
  have hown2 := OwnS.step IsR.stb (T := fun b => S b ∨ (w.heap.size ≤ b ∧ b < w2.heap.size)) HO.out Hb2.out (fun b h => .inl h) (fun b h => h)
  have hel2 := IsQ.stb.to Hv2.out (zay (T := fun b => S b ∨ (w.heap.size ≤ b ∧ b < w2.heap.size)) fun b h => .inr ⟨Nat.le_trans hsz0 h.1, h.2⟩)
  clear hb hv2 c0 c1 c2 d0 d1 d2
  go_wp2_with (at_builtin; refine zcg elR rfl _ _ rfl IsR.stb rfl rfl rfl hown2 hel2 rfl (by intro u hu; simp [Value.cells] at hu; rcases hu with rfl | rfl | rfl <;> rfl) (by omega) hbs ?_; intro v3 w3 hown3 hb3 hz3)
  go_ret
  exact ⟨⟨_, _, rfl, hown3, fun b hb => hb.imp id fun h => h.1⟩, (Hb2.out.mono hbase).trans hb3⟩
def PhiFv (b2 o2 M cB k : Nat) (P : Option Addr) (c : Nat) (x0 y0 : Bool) (X1 X3 Y1 Y3 : Option Addr) (x1 X2 x2 X4 y1 Y2 y2 Y4 : Nat) (i : Nat) (v : Value) (w : World) (X : Nat → Option Value) : Prop :=
  match i with
  | 0 => v = .func (.func 88) #[] #[]
  | 1 => v = .slice P k c
  | 2 => v = .agg #[.bool x0, .slice X1 x1 X2, .slice X3 x2 X4]
  | 3 => v = .slice (some ⟨b2, o2, none⟩) M cB
  | 4 => v = .int .i64 (k : Int)
  | 5 => v = .pointer (some ⟨b2, (o2 + k * 3), none⟩)
  | 6 => v = .agg #[.bool y0, .slice Y1 y1 Y2, .slice Y3 y2 Y4]
  | _ => True
theorem phiFv_st (b2 o2 M cB k : Nat) (P : Option Addr) (c : Nat) (x0 y0 : Bool) (X1 X3 Y1 Y3 : Option Addr) (x1 X2 x2 X4 y1 Y2 y2 Y4 : Nat) : ∀ i v (w w' : World) X X', PhiFv b2 o2 M cB k P c x0 y0 X1 X3 Y1 Y3 x1 X2 x2 X4 y1 Y2 y2 Y4 i v w X → PhiFv b2 o2 M cB k P c x0 y0 X1 X3 Y1 Y3 x1 X2 x2 X4 y1 Y2 y2 Y4 i v w' X' := fun i v w w' X X' h => by
  match i, h with
  | 0, h => exact h
  | 1, h => exact h
  | 2, h => exact h
  | 3, h => exact h
  | 4, h => exact h
  | 5, h => exact h
  | 6, h => exact h
  | _ + 7, _ => exact trivial
set_option maxRecDepth 100000 in
set_option maxHeartbeats 4000000 in
theorem foldv_l {w : World} {va vb v0 : Value} {a b : List Rat} {M base : Nat} {S0 : Nat → Prop} (ha : IsV w (fun b => b < base) va (rawV a)) (hb : IsV w (fun b => b < base) vb (rawV b)) (h0 : OwnS 3 50 IsR w base S0 v0 []) (hbase : base ≤ w.heap.size) (hS0 : ∀ b, S0 b → base ≤ b) (hB : Bru w) (hBb : ∀ W, Below base w W → Bru W) (hla : a.length = M) (hlb : b.length = M) (hM : M ≤ 40) (sa : ∀ q ∈ a, Sz q 1024) (sb : ∀ q ∈ b, Sz q 1024) :
    Calls Tryd.prog 87 #[va, vb, v0, .func (.func 88) #[] #[]] w fun e w' => (∃ v S, e = .returned v ∧ OwnS 3 50 IsR w' base S v (rawV (addQ a b)) ∧ ∀ b, S b → base ≤ b) ∧ Below base w w' := by
  have HA := Lib.hid ha
  have HV := Lib.hid hb
  have HB := Lib.hid hBb
  have Hla := Lib.hid hla
  have Hlb := Lib.hid hlb
  have Hsa := Lib.hid sa
  have Hsb := Lib.hid sb
  obtain ⟨A, cA, rfl, _⟩ := zav ha
  obtain ⟨B, cB, rfl, _⟩ := zav hb
  have ela : (rawV a).length = M := by simp [rawV, hla]
  have elb : (rawV b).length = M := by simp [rawV, hlb]
  rw [ela] at HA
  rw [elb] at HV
  rw [ela, elb]
  have H0 := Lib.hid h0
  have HS0 := Lib.hid hS0
  obtain ⟨P, c, rfl⟩ := h0.slice
  clear ha hb hla hlb sa sb ela elb h0 hB hS0 hBb
  go_enter Tryd.func87, Tryd.ntmps87
  go_wp2_with fail
  go_loopw [13, 2, 9, 10] (fun i v _ _ wr => ∃ (k : Nat) (S : Nat → Prop), k ≤ M ∧ i = .int .i64 (k : Int) ∧ Below base w wr ∧ OwnS 3 50 IsR wr base S v (rawV ((addQ a b).take k)) ∧ Hid (∀ b, S b → base ≤ b)) (fun i _ _ _ _ => M - (intOf i).toNat)
  case atStart => exact ⟨0, S0, Nat.zero_le _, rfl, Below.refl _ _, by simpa [rawV] using H0.out, HS0.out⟩
  case round =>
    obtain ⟨k, S, hk, rfl, hbw, hown, hS⟩ := hrel
    have HO := Lib.hid hown
    have HS := Lib.hid hS.out
    have HBw := Lib.hid hbw
    have hszw := hbw.size
    obtain ⟨P, c, hP⟩ := hown.slice
    have elk : (rawV ((addQ a b).take k)).length = k := by rw [zbr, List.length_take, addQ_len Hla.out Hlb.out]; omega
    rw [elk] at hP
    subst hP
    clear hown hS
    rcases Nat.lt_or_ge k M with hlt | hge
    · obtain ⟨x, hx, hrx⟩ := zdb (l := a) (j := k) (by rw [Hla.out]; exact hlt)
      obtain ⟨y, hy, hry⟩ := zdb (l := b) (j := k) (by rw [Hlb.out]; exact hlt)
      obtain ⟨b1, o1, X1, X2, X3, X4, rfl, hSb1, helx, c0, c1, c2⟩ := zda HA.out hrx
      obtain ⟨b2, o2, Y1, Y2, Y3, Y4, rfl, hSb2, hely, d0, d1, d2⟩ := zda HV.out hry
      obtain ⟨x0, hx0⟩ : ∃ s, s = (raw x).neg := ⟨_, rfl⟩
      obtain ⟨x1, hx1⟩ : ∃ s, s = (raw x).num.length := ⟨_, rfl⟩
      obtain ⟨x2, hx2⟩ : ∃ s, s = (raw x).den.length := ⟨_, rfl⟩
      obtain ⟨y0, hy0⟩ : ∃ s, s = (raw y).neg := ⟨_, rfl⟩
      obtain ⟨y1, hy1⟩ : ∃ s, s = (raw y).num.length := ⟨_, rfl⟩
      obtain ⟨y2, hy2⟩ : ∃ s, s = (raw y).den.length := ⟨_, rfl⟩
      rw [← hx0] at c0
      rw [← hx1] at c1
      rw [← hx2] at c2
      rw [← hy0] at d0
      rw [← hy1] at d1
      rw [← hy2] at d2
      rw [← hx0, ← hx1, ← hx2] at helx
      rw [← hy0, ← hy1, ← hy2] at hely
      replace c0 := hbw.cell (p := ⟨b1, o1 + k * 3, none⟩) hSb1 |>.trans c0
      replace c1 := hbw.cell (p := ⟨b1, o1 + k * 3 + 1, none⟩) hSb1 |>.trans c1
      replace c2 := hbw.cell (p := ⟨b1, o1 + k * 3 + 2, none⟩) hSb1 |>.trans c2
      have Hy3 : Hid (w.cell? ⟨b2, o2 + k * 3, none⟩ = some (.bool y0) ∧ w.cell? ⟨b2, o2 + k * 3 + 1, none⟩ = some (.slice Y1 y1 Y2) ∧ w.cell? ⟨b2, o2 + k * 3 + 2, none⟩ = some (.slice Y3 y2 Y4)) := ⟨d0, d1, d2⟩
      have same0 : Same (fun b => b < base) (Old wr) w wr := fun z hz => ⟨Nat.lt_of_lt_of_le hz (Nat.le_trans hbase hszw), fun o => hbw.cell (p := ⟨z, o, none⟩) hz⟩
      have Qx := Lib.hid (IsQ.stb.to (zey helx) same0)
      have Qy := Lib.hid (IsQ.stb.to (zey hely) same0)
      have Hx := Lib.hid hx
      have Hy := Lib.hid hy
      have cr := zbn
      have Hsb2 : Hid (b2 < base) := hSb2
      clear hx hy hrx hry helx hely hx0 hx1 hx2 hy0 hy1 hy2 d0 d1 d2 hSb1 hSb2 same0
      obtain ⟨wx, hwx⟩ : ∃ x, x = wr.alloc (.cells #[.bool x0, .slice X1 x1 X2, .slice X3 x2 X4] 50) := ⟨_, rfl⟩
      have hbx : Below wr.heap.size wr wx := by rw [hwx]; exact zal _ _
      have hrx : Row wx wr.heap.size 50 [.bool x0, .slice X1 x1 X2, .slice X3 x2 X4] := by rw [hwx]; exact heap_alloc_new _ _
      go_wp2_with fail
      rw [← hwx]
      obtain ⟨wd, hwd⟩ : ∃ x, x = wx.drew := ⟨_, rfl⟩
      have hbd : Below wr.heap.size wr wd := by rw [hwd]; exact zaa hbx (zac _)
      have BD := Lib.hid hbd
      have Hwd := Lib.hid hwd
      have RX : Hid (Row wd wr.heap.size 50 [.bool x0, .slice X1 x1 X2, .slice X3 x2 X4]) := by rw [Hid, hwd]; exact hrx
      have Bwd := Lib.hid (HBw.out.trans (hbd.mono (Nat.le_trans hbase hszw)))
      obtain ⟨n0, n1, n2⟩ := zad RX.out
      have d0 := Bwd.out.cell (p := ⟨b2, o2 + k * 3, none⟩) Hsb2.out |>.trans Hy3.out.1
      have d1 := Bwd.out.cell (p := ⟨b2, o2 + k * 3 + 1, none⟩) Hsb2.out |>.trans Hy3.out.2.1
      have d2 := Bwd.out.cell (p := ⟨b2, o2 + k * 3 + 2, none⟩) Hsb2.out |>.trans Hy3.out.2.2
      clear hwx hbx hrx hwd hbd c0 c1 c2 Hy3
      refine zeb fun ops hops => ?_
      have oq0 := zar (j := 0) hops rfl
      have oq1 := zar (j := 1) hops rfl
      have oq2 := zar (j := 2) hops rfl
      have oq3 := zar (j := 3) hops rfl
      have oq4 := zar (j := 4) hops rfl
      have oq5 := zar (j := 5) hops rfl
      have oq6 := zar (j := 6) hops rfl
      have oq7 := zar (j := 7) hops rfl
      have oq8 := zar (j := 8) hops rfl
      have fr := fun t h => zdo (n := 7) hops t h
      refine zdp 7 (PhiFv b2 o2 M cB k P c x0 y0 X1 X3 Y1 Y3 x1 X2 x2 X4 y1 Y2 y2 Y4) (fun _ _ => True) (fun x => x = wd) (fun _ w w' => w.grownBy w' none) (by kernel_rfl) Hwd.out.symm (fun _ => trivial) (fun _ _ _ _ _ _ _ _ => trivial) (fun i _ v wa wb X u _ _ h _ _ => phiFv_st _ _ _ _ _ _ _ _ _ _ _ _ _ _ _ _ _ _ _ _ _ i v wa wb X _ h) (by rw [hops]; kernel_rfl) (by rw [hops]; kernel_rfl) ?step ?fin
      case step =>
        intro i o hin hi a W X hsz hdf hJ hP hXi hfree hdep
        obtain ⟨T, df⟩ := a
        replace hsz : T.size = 28 := hsz
        obtain rfl : df = [] := hdf
        match i, hin, hi, hXi, hP with
        | 0, _, hi, hXi, hP =>
          obtain rfl := Option.some.inj (oq0.symm.trans hi)
          have e3 : T[3]? = some (.func (.func 88) #[] #[]) := hfree 3 (fr 3 (by kernel_rfl))
          subst hJ
          refine zae rfl ?_
          refine zap (E := fun w' => W.grownBy w' (none)) (Φ := PhiFv b2 o2 M cB k P c x0 y0 X1 X3 Y1 Y3 x1 X2 x2 X4 y1 Y2 y2 Y4 0) fun K hK => ?_
          clear hdep hfree hsz hops fr oq0 oq1 oq2 oq3 oq4 oq5 oq6 oq7 oq8
          go_simp
          exact hK (.func (.func 88) #[] #[]) _ (zaf _ _) rfl rfl
        | 1, _, hi, hXi, hP =>
          obtain rfl := Option.some.inj (oq1.symm.trans hi)
          have e2 : T[2]? = some (.slice P k c) := hfree 2 (fr 2 (by kernel_rfl))
          subst hJ
          refine zae rfl ?_
          refine zap (E := fun w' => W.grownBy w' (none)) (Φ := PhiFv b2 o2 M cB k P c x0 y0 X1 X3 Y1 Y3 x1 X2 x2 X4 y1 Y2 y2 Y4 1) fun K hK => ?_
          clear hdep hfree hsz hops fr oq0 oq1 oq2 oq3 oq4 oq5 oq6 oq7 oq8
          go_simp
          exact hK (.slice P k c) _ (zaf _ _) rfl rfl
        | 2, _, hi, hXi, hP =>
          obtain rfl := Option.some.inj (oq2.symm.trans hi)
          have e10 : T[10]? = some (.pointer (some ⟨wr.heap.size, 0, none⟩)) := hfree 10 (fr 10 (by kernel_rfl))
          subst hJ
          refine zae rfl ?_
          refine zap (E := fun w' => W.grownBy w' (none)) (Φ := PhiFv b2 o2 M cB k P c x0 y0 X1 X3 Y1 Y3 x1 X2 x2 X4 y1 Y2 y2 Y4 2) fun K hK => ?_
          clear hdep hfree hsz hops fr oq0 oq1 oq2 oq3 oq4 oq5 oq6 oq7 oq8
          go_simp
          exact hK (.agg #[.bool x0, .slice X1 x1 X2, .slice X3 x2 X4]) _ (zaf _ _) rfl rfl
        | 3, _, hi, hXi, hP =>
          obtain rfl := Option.some.inj (oq3.symm.trans hi)
          have e1 : T[1]? = some (.slice (some ⟨b2, o2, none⟩) M cB) := hfree 1 (fr 1 (by kernel_rfl))
          subst hJ
          refine zae rfl ?_
          refine zap (E := fun w' => W.grownBy w' (none)) (Φ := PhiFv b2 o2 M cB k P c x0 y0 X1 X3 Y1 Y3 x1 X2 x2 X4 y1 Y2 y2 Y4 3) fun K hK => ?_
          clear hdep hfree hsz hops fr oq0 oq1 oq2 oq3 oq4 oq5 oq6 oq7 oq8
          go_simp
          exact hK (.slice (some ⟨b2, o2, none⟩) M cB) _ (zaf _ _) rfl rfl
        | 4, _, hi, hXi, hP =>
          obtain rfl := Option.some.inj (oq4.symm.trans hi)
          have e9 : T[9]? = some (.int .i64 (k : Int)) := hfree 9 (fr 9 (by kernel_rfl))
          subst hJ
          refine zae rfl ?_
          refine zap (E := fun w' => W.grownBy w' (none)) (Φ := PhiFv b2 o2 M cB k P c x0 y0 X1 X3 Y1 Y3 x1 X2 x2 X4 y1 Y2 y2 Y4 4) fun K hK => ?_
          clear hdep hfree hsz hops fr oq0 oq1 oq2 oq3 oq4 oq5 oq6 oq7 oq8
          go_simp
          exact hK (.int .i64 (k : Int)) _ (zaf _ _) rfl rfl
        | 5, _, hi, hXi, hP =>
          obtain rfl := Option.some.inj (oq5.symm.trans hi)
          have d21 : (T.getD 21 undef) = .slice (some ⟨b2, o2, none⟩) M cB := (hdep 3 _ (odt (by kernel_rfl)) oq3).2
          have e21 := zah (by omega) d21
          clear d21
          have d22 : (T.getD 22 undef) = .int .i64 (k : Int) := (hdep 4 _ (odt (by kernel_rfl)) oq4).2
          have e22 := zah (by omega) d22
          clear d22
          subst hJ
          refine zae rfl ?_
          refine zap (E := fun w' => W.grownBy w' (none)) (Φ := PhiFv b2 o2 M cB k P c x0 y0 X1 X3 Y1 Y3 x1 X2 x2 X4 y1 Y2 y2 Y4 5) fun K hK => ?_
          clear hdep hfree hsz hops fr oq0 oq1 oq2 oq3 oq4 oq5 oq6 oq7 oq8
          go_simp
          exact hK (.pointer (some ⟨b2, (o2 + k * 3), none⟩)) _ (zaf _ _) rfl rfl
        | 6, _, hi, hXi, hP =>
          obtain rfl := Option.some.inj (oq6.symm.trans hi)
          have d23 : (T.getD 23 undef) = .pointer (some ⟨b2, (o2 + k * 3), none⟩) := (hdep 5 _ (odt (by kernel_rfl)) oq5).2
          have e23 := zah (by omega) d23
          clear d23
          subst hJ
          refine zae rfl ?_
          refine zap (E := fun w' => W.grownBy w' (none)) (Φ := PhiFv b2 o2 M cB k P c x0 y0 X1 X3 Y1 Y3 x1 X2 x2 X4 y1 Y2 y2 Y4 6) fun K hK => ?_
          clear hdep hfree hsz hops fr oq0 oq1 oq2 oq3 oq4 oq5 oq6 oq7 oq8
          go_simp
          exact hK (.agg #[.bool y0, .slice Y1 y1 Y2, .slice Y3 y2 Y4]) _ (zaf _ _) rfl rfl
        | i + 7, hin, hi, hXi, hP => exact absurd hin (by omega)
      case fin =>
        intro a W X hsz hdf hJ hfree hall
        obtain ⟨⟨l⟩, df⟩ := a
        replace hsz : l.length = 28 := hsz
        obtain ⟨fs, rfl⟩ := open28 hsz
        obtain rfl : df = [] := hdf
        have bs0 : fs 0 = .slice (some ⟨b1, o1, none⟩) M cA := Option.some.inj (hfree 0 (fr 0 (by kernel_rfl)))
        have bs1 : fs 1 = .slice (some ⟨b2, o2, none⟩) M cB := Option.some.inj (hfree 1 (fr 1 (by kernel_rfl)))
        have bs2 : fs 2 = .slice P k c := Option.some.inj (hfree 2 (fr 2 (by kernel_rfl)))
        have bs3 : fs 3 = .func (.func 88) #[] #[] := Option.some.inj (hfree 3 (fr 3 (by kernel_rfl)))
        have bs4 : fs 4 = undef := Option.some.inj (hfree 4 (fr 4 (by kernel_rfl)))
        have bs5 : fs 5 = undef := Option.some.inj (hfree 5 (fr 5 (by kernel_rfl)))
        have bs6 : fs 6 = undef := Option.some.inj (hfree 6 (fr 6 (by kernel_rfl)))
        have bs7 : fs 7 = undef := Option.some.inj (hfree 7 (fr 7 (by kernel_rfl)))
        have bs8 : fs 8 = .slice none 0 0 := Option.some.inj (hfree 8 (fr 8 (by kernel_rfl)))
        have bs9 : fs 9 = .int .i64 (k : Int) := Option.some.inj (hfree 9 (fr 9 (by kernel_rfl)))
        have bs10 : fs 10 = .pointer (some ⟨wr.heap.size, 0, none⟩) := Option.some.inj (hfree 10 (fr 10 (by kernel_rfl)))
        have bs11 : fs 11 = .slice (some ⟨b1, o1, none⟩) M cA := Option.some.inj (hfree 11 (fr 11 (by kernel_rfl)))
        have bs12 : fs 12 = .int .i64 (M : Int) := Option.some.inj (hfree 12 (fr 12 (by kernel_rfl)))
        have bs13 : fs 13 = .int .i64 (k : Int) := Option.some.inj (hfree 13 (fr 13 (by kernel_rfl)))
        have bs27 : fs 27 = undef := Option.some.inj (hfree 27 (fr 27 (by kernel_rfl)))
        have x18 : X 0 = some (fs 18) := (hall 0 _ (by omega) oq0).1
        have q18 : (fs 18) = .func (.func 88) #[] #[] := (hall 0 _ (by omega) oq0).2
        clear x18
        have x19 : X 1 = some (fs 19) := (hall 1 _ (by omega) oq1).1
        have q19 : (fs 19) = .slice P k c := (hall 1 _ (by omega) oq1).2
        clear x19
        have x20 : X 2 = some (fs 20) := (hall 2 _ (by omega) oq2).1
        have q20 : (fs 20) = .agg #[.bool x0, .slice X1 x1 X2, .slice X3 x2 X4] := (hall 2 _ (by omega) oq2).2
        clear x20
        have x24 : X 6 = some (fs 24) := (hall 6 _ (by omega) oq6).1
        have q24 : (fs 24) = .agg #[.bool y0, .slice Y1 y1 Y2, .slice Y3 y2 Y4] := (hall 6 _ (by omega) oq6).2
        clear x24
        clear hall hfree hsz
        rw [hops]
        clear hops fr oq0 oq1 oq2 oq3 oq4 oq5 oq6 oq7 oq8
        rw [bs0, bs1, bs2, bs3, bs4, bs5, bs6, bs7, bs8, bs9, bs10, bs11, bs12, bs13, bs27, q18, q19, q20, q24]
        clear bs0 bs1 bs2 bs3 bs4 bs5 bs6 bs7 bs8 bs9 bs10 bs11 bs12 bs13 bs27 q18 q19 q20 q24
        subst hJ
        clear n0 n1 n2 d0 d1 d2
        show wpList _ _ _ [_, _] _ _
        go_wp2_with fail
        have Hpx := Hsa.out x (List.mem_of_getElem? Hx.out)
        have Hpy := Hsb.out y (List.mem_of_getElem? Hy.out)
        have hOd := OwnS.step IsR.stb HO.out BD.out (fun b h => h) (fun b h => .inl h)
        have hbd := Nat.le_trans (Nat.le_trans hbase hszw) BD.out.size
        rw [show Value.slice P k c = Value.slice P (rawV ((addQ a b).take k)).length c by rw [elk]] at hOd ⊢
        refine (add1_l (qz := x + y) hOd hbd (IsQ.stb.next Qx.out BD.out) (IsQ.stb.next Qy.out BD.out) (HB.out _ Bwd.out) (Hpx.le (by omega)) (Hpy.le (by omega)) (by rw [elk]; omega) rfl).mono ?_
        rintro e w3 ⟨⟨v3, S3, rfl, hv3, hS3⟩, hb3⟩
        have V3 := Lib.hid hv3
        have B3 := Lib.hid (Bwd.out.trans hb3)
        have H3 := Lib.hid hS3
        obtain ⟨P3, c3, hP3⟩ := hv3.slice
        subst hP3
        clear hv3 hb3 hOd hS3
        go_wp2_with fail
        go_roundw
        case rel =>
          refine ⟨k + 1, S3, hlt, by go_num, B3.out, ?_, fun b hb => (H3.out b hb).elim (HS.out b) fun h => Nat.le_trans hbd h⟩
          rw [zce (addQ_at Hx.out Hy.out), zeu]
          have h := V3.out
          rw [List.length_append, elk] at h
          exact h
        case measure => simp [intOf]; omega
    · obtain rfl : k = M := by omega
      have hlt : ¬ k < k := by omega
      have e : (addQ a b).take k = addQ a b := List.take_of_length_le (by rw [addQ_len Hla.out Hlb.out]; exact Nat.le_refl _)
      rw [e] at HO
      clear e
      go_wp2_with fail
      go_ret
      exact ⟨⟨_, S, rfl, HO.out, HS.out⟩, HBw.out⟩
set_option maxRecDepth 100000 in
set_option maxHeartbeats 2000000 in
theorem vAdd_good {w : World} {va vb : Value} {a b : List Rat} {M : Nat} (ha : IsV w (Old w) va (rawV a)) (hb : IsV w (Old w) vb (rawV b)) (hB : Bru w) (h0 : bothE (rawV a) (rawV b) = 0) (hla : a.length = M) (hlb : b.length = M) (hM : M ≤ 40) (sa : ∀ q ∈ a, Sz q 1024) (sb : ∀ q ∈ b, Sz q 1024) (hs : ∀ q ∈ addQ a b, Sz q 1024) :
    Calls Tryd.prog 42 #[va, vb] w fun e w' => (∃ v, e = .returned (.tuple #[v, .int .i64 0]) ∧ IsV w' (Old w') v (rawV (addQ a b))) ∧ Below w.heap.size w w' := by
  have HA := Lib.hid ha
  have HV := Lib.hid hb
  have HB := Lib.hid hB
  have HE := Lib.hid h0
  have Hs := Lib.hid hs
  have Hla := Lib.hid hla
  have Hlb := Lib.hid hlb
  obtain ⟨A, cA, rfl, _⟩ := zav ha
  obtain ⟨B, cB, rfl, _⟩ := zav hb
  have ela : (rawV a).length = M := by simp [rawV, hla]
  have elb : (rawV b).length = M := by simp [rawV, hlb]
  rw [ela] at HA
  rw [elb] at HV
  rw [ela, elb]
  clear ha hb hB h0 hs ela elb
  go_enter Tryd.func42, Tryd.ntmps42
  go_wp2_with fail
  refine (vboth_l HA.out HV.out HB.out).mono ?_
  rw [HE.out]
  rintro e w1 ⟨rfl, hb1⟩
  have HB1 := Lib.hid hb1
  clear hb1
  go_wp2_with (at_make; refine zci elR rfl _ _ rfl IsR M rfl rfl rfl (by omega) (base := w1.heap.size) (S := fun _ => False) (Nat.le_refl _) (fun b h => h.elim) ?_; intro v2 w2 hown2 hb2 hz2)
  have HB2 := Lib.hid (zaa HB1.out hb2)
  have hzz : w1.heap.size ≤ w2.heap.size := hz2
  refine (foldv_l (M := M) (base := w1.heap.size) (S0 := fun _ => False) (IsV.stb.to HA.out (fun b h => ⟨Nat.lt_of_lt_of_le h HB1.out.size, fun o => HB2.out.cell (p := ⟨b, o, none⟩) h⟩)) (IsV.stb.to HV.out (fun b h => ⟨Nat.lt_of_lt_of_le h HB1.out.size, fun o => HB2.out.cell (p := ⟨b, o, none⟩) h⟩)) hown2 hzz (fun b h => h.elim) (Bru.next HB.out HB2.out) (fun W hW => Bru.next HB.out (HB2.out.trans (hW.mono HB1.out.size))) Hla.out Hlb.out hM sa sb).mono ?_
  rintro e w3 ⟨⟨v3, S3, rfl, hv3, hS3⟩, hb3⟩
  have HB3 := Lib.hid (HB2.out.trans (hb3.mono HB1.out.size))
  have V3 : Hid (IsV w3 (Old w3) v3 (rawV (addQ a b))) := OwnS.isS IsR.stb (T := Old w3) hv3 (fun b hb => by obtain ⟨_, _, _, _, h4⟩ := hv3; exact (h4 b hb).1) (fun b h1 h2 => h2)
  clear hb3 hv3 hS3 hown2
  go_wp2_with fail
  refine (zes V3.out).mono ?_
  rw [bndV_ok Hs.out]
  rintro e w4 ⟨rfl, hb4⟩
  have HB4 := Lib.hid (zaa HB3.out hb4)
  have V4 := Lib.hid (IsV.stb.next V3.out hb4)
  clear hb4
  go_wp2_with fail
  go_ret2
  exact ⟨⟨_, rfl, V4.out⟩, HB4.out⟩
def zfh (a : List Rat) (y : Rat) : List Rat := a.map (· * y)
theorem scaleQ_len (a : List Rat) (y : Rat) : (zfh a y).length = a.length := List.length_map _
theorem scaleQ_at {a : List Rat} {y x : Rat} {k : Nat} (h : a[k]? = some x) : (zfh a y)[k]? = some (x * y) := by
  unfold zfh
  rw [List.getElem?_map, h]
  rfl
def scaleE (a : List Raw) (r : Raw) : Int := if chkV a ≠ 0 then chkV a else chkQ r
theorem scaleE_zero {a : List Raw} {r : Raw} (h : scaleE a r = 0) : chkV a = 0 ∧ chkQ r = 0 := by
  unfold scaleE at h
  split at h
  · rename_i h1; exact absurd h h1
  · rename_i h1; exact ⟨Decidable.not_not.1 h1, h⟩
set_option maxRecDepth 100000 in
set_option maxHeartbeats 4000000 in
theorem vScale_good {w : World} {va vx : Value} {a : List Rat} {y : Rat} {M : Nat} (ha : IsV w (Old w) va (rawV a)) (hx : IsQ w (Old w) vx y) (hB : Bru w) (h0 : scaleE (rawV a) (raw y) = 0) (hla : a.length = M) (hM : M ≤ 40) (sa : ∀ q ∈ a, Sz q 1024) (sy : Sz y 1024) (hs : ∀ q ∈ zfh a y, Sz q 1024) :
    Calls Tryd.prog 45 #[va, vx] w fun e w' => (∃ v, e = .returned (.tuple #[v, .int .i64 0]) ∧ IsV w' (Old w') v (rawV (zfh a y))) ∧ Below w.heap.size w w' := by
  have HA := Lib.hid ha
  have HX := Lib.hid hx
  have HB := Lib.hid hB
  have HE := Lib.hid (scaleE_zero h0)
  have Hs := Lib.hid hs
  have Hla := Lib.hid hla
  have Hsa := Lib.hid sa
  have Hsy : Hid (Sz y 100000) := sy.le (by omega)
  obtain ⟨A, cA, rfl, _⟩ := zav ha
  have ela : (rawV a).length = M := by simp [rawV, hla]
  rw [ela] at HA
  rw [ela]
  obtain ⟨Y1, Y2, Y3, Y4, rfl, _, _⟩ := (show IsR w (Old w) vx (raw y) from hx)
  obtain ⟨y0, hy0⟩ : ∃ s, s = (raw y).neg := ⟨_, rfl⟩
  obtain ⟨y1, hy1⟩ : ∃ s, s = (raw y).num.length := ⟨_, rfl⟩
  obtain ⟨y2, hy2⟩ : ∃ s, s = (raw y).den.length := ⟨_, rfl⟩
  rw [← hy0, ← hy1, ← hy2] at HX ⊢
  obtain ⟨w0, hw0, hb0, rX, Hz0⟩ := zbv w #[.bool y0, .slice Y1 y1 Y2, .slice Y3 y2 Y4] 50
  have HB0 := Lib.hid hb0
  have RX := Lib.hid rX
  clear ha hx h0 hla sa hs ela hy0 hy1 hy2 rX hb0 hB
  go_enter Tryd.func45, Tryd.ntmps45
  go_wp2_with fail
  clear hw0
  refine (zff (IsV.stb.next HA.out HB0.out) (Bru.next HB.out HB0.out)).mono ?_
  rw [HE.out.1]
  rintro e w1 ⟨rfl, hb1⟩
  have HB1 := Lib.hid (zaa HB0.out hb1)
  have RX1 := Lib.hid (RX.out.next hb1)
  obtain ⟨c0, c1, c2⟩ := zad RX1.out
  clear hb1
  go_wp2_with fail
  refine (check_q (r := raw y) (IsQ.stb.next HX.out HB1.out) (Bru.next HB.out HB1.out)).mono ?_
  rw [HE.out.2]
  rintro e w2 ⟨rfl, hb2⟩
  have HB2 := Lib.hid (zaa HB1.out hb2)
  have RX2 := Lib.hid (RX1.out.next hb2)
  have hz2 := RX2.out.lt
  clear hb2 c0 c1 c2
  go_wp2_with (at_make; refine zci elR rfl _ _ rfl IsR M rfl rfl rfl (by omega) (base := w2.heap.size) (S := fun _ => False) (Nat.le_refl _) (fun b h => h.elim) ?_; intro v3 w3 hown3 hb3 hz3)
  have HB3 := Lib.hid (zaa HB2.out hb3)
  have RX3 := Lib.hid (RX2.out.next hb3)
  have Hown3 := Lib.hid hown3
  have Hz3 : Hid (w2.heap.size ≤ w3.heap.size) := hz3
  clear hb3 hown3 hz3
  go_loopw [26, 8, 10] (fun i ov _ wr => ∃ (k : Nat) (S : Nat → Prop), k ≤ M ∧ i = .int .i64 (k : Int) ∧ Below w.heap.size w wr ∧ Row wr w.heap.size 50 [.bool y0, .slice Y1 y1 Y2, .slice Y3 y2 Y4] ∧ Hid (OwnS 3 50 IsR wr w2.heap.size S ov (rawV ((zfh a y).take k))) ∧ Hid (∀ b, S b → w2.heap.size ≤ b) ∧ Hid (w2.heap.size ≤ wr.heap.size)) (fun i _ _ _ => M - (intOf i).toNat)
  case atStart => exact ⟨0, fun _ => False, Nat.zero_le _, rfl, HB3.out, RX3.out, by simpa [rawV, Hid] using Hown3.out, fun b hb => hb.elim, Hz3.out⟩
  case round =>
    obtain ⟨k, S, hk, rfl, hbw, hrow, hrel, hS, hzw⟩ := hrel
    have Hbw := Lib.hid hbw
    have HRw := Lib.hid hrow
    have Hown := Lib.hid hrel.out
    have HS1 := Lib.hid hS.out
    have hszw := hbw.size
    have hlt1 := hrow.lt
    obtain ⟨d0, d1, d2⟩ := zad hrow
    clear hrel hS hrow
    rcases Nat.lt_or_ge k M with hlt | hge
    · obtain ⟨x, hx, hrx⟩ := zdb (l := a) (j := k) (by rw [Hla.out]; exact hlt)
      obtain ⟨b1, o1, X1, X2, X3, X4, rfl, hSb1, helx, c0, c1, c2⟩ := zda HA.out hrx
      obtain ⟨x0, hx0⟩ : ∃ s, s = (raw x).neg := ⟨_, rfl⟩
      obtain ⟨x1, hx1⟩ : ∃ s, s = (raw x).num.length := ⟨_, rfl⟩
      obtain ⟨x2, hx2⟩ : ∃ s, s = (raw x).den.length := ⟨_, rfl⟩
      rw [← hx0] at c0
      rw [← hx1] at c1
      rw [← hx2] at c2
      rw [← hx0, ← hx1, ← hx2] at helx
      replace c0 := hbw.cell (p := ⟨b1, o1 + k * 3, none⟩) hSb1 |>.trans c0
      replace c1 := hbw.cell (p := ⟨b1, o1 + k * 3 + 1, none⟩) hSb1 |>.trans c1
      replace c2 := hbw.cell (p := ⟨b1, o1 + k * 3 + 2, none⟩) hSb1 |>.trans c2
      have Qx := Lib.hid (IsQ.stb.to (zey helx) (zam hbw))
      have Qy := Lib.hid (IsQ.stb.next HX.out hbw)
      obtain ⟨z, hz⟩ : ∃ z, z = x * y := ⟨_, rfl⟩
      have Hz := Lib.hid hz
      have Hend : Hid ((zfh a y)[k]? = some z) := by rw [Hid, hz]; exact scaleQ_at hx
      have Hsx : Hid (Sz x 100000) := (Hsa.out x (List.mem_of_getElem? hx)).le (by omega)
      have cr := zbn
      have hk0 : (0 : Int) ≤ (k : Int) := by omega
      have hk1 : (k : Int) < (M : Int) := by omega
      obtain ⟨wx, hwx, hbx, rx, hzx⟩ := zbv wr #[.bool x0, .slice X1 x1 X2, .slice X3 x2 X4] 50
      have BX := Lib.hid hbx
      obtain ⟨g0, g1, g2⟩ := zad rx
      have d0 := zab hbx d0
      have d1 := zab hbx d1
      have d2 := zab hbx d2
      have Hhlt := Lib.hid hlt
      clear hx hrx helx hx0 hx1 hx2 hz hbw rx hzx hbx hSb1 hlt
      go_wp2_with fail
      clear hwx c0 c1 c2
      refine (times_q (IsQ.stb.next Qx.out BX.out) (IsQ.stb.next Qy.out BX.out) (Bru.next HB.out (zaa Hbw.out BX.out)) Hsx.out Hsy.out Hz.out).mono ?_
      rintro e w5 ⟨⟨v5, rfl, hv5⟩, hb5⟩
      obtain ⟨s5, P5, k5, O5, l5, rfl, _, _, _⟩ := zai hv5
      have BB5 := Lib.hid (zaa BX.out hb5)
      have hown5 := OwnS.step IsR.stb (T := fun b => S b ∨ (wr.heap.size ≤ b ∧ b < w5.heap.size)) Hown.out BB5.out (fun b h => .inl h) (fun b h => h)
      have hel5 := IsQ.stb.to hv5 (zay (T := fun b => S b ∨ (wr.heap.size ≤ b ∧ b < w5.heap.size)) fun b h => .inr ⟨Nat.le_trans BX.out.size h.1, h.2⟩)
      have HB5 := Lib.hid (zaa Hbw.out BB5.out)
      have hbase : w2.heap.size ≤ w5.heap.size := Nat.le_trans hzw.out BB5.out.size
      have hlt := Hhlt.out
      clear hb5 hv5 g0 g1 g2 d0 d1 d2
      go_wp2_with (at_builtin; refine zcg elR rfl _ _ rfl IsR.stb rfl rfl rfl hown5 hel5 rfl (by intro u hu; simp [Value.cells] at hu; rcases hu with rfl | rfl | rfl <;> rfl) (by have h1 := List.length_take_le k (zfh a y); rw [zbr]; omega) hbase ?_; intro v6 w6 hown6 hb6 hz6)
      go_roundw
      case rel =>
        refine ⟨k + 1, fun b => S b ∨ (wr.heap.size ≤ b ∧ b < w5.heap.size), hlt, by go_num, HB5.out.trans (hb6.mono (Nat.le_of_lt hz2)), Row.below (Row.next HRw.out BB5.out) hb6 hz2, ?_, fun b hb => by rcases hb with hb | hb; exact HS1.out b hb; exact Nat.le_trans hzw.out hb.1, by rw [Hid]; omega⟩
        rw [zce Hend.out, zeu]
        exact hown6
      case measure => simp [intOf]; omega
    · obtain rfl : k = M := by omega
      have e : (zfh a y).take k = zfh a y := List.take_of_length_le (by rw [scaleQ_len, Hla.out]; exact Nat.le_refl _)
      rw [e] at Hown
      have hV : IsV wr (Old wr) _ (rawV (zfh a y)) := OwnS.isS IsR.stb (T := Old wr) Hown.out (fun b hb => by obtain ⟨_, _, _, _, h4⟩ := Hown.out; exact (h4 b hb).1) (fun b h1 h2 => h2)
      have HVV := Lib.hid hV
      clear hV e hbw d0 d1 d2
      go_wp2_with fail
      refine (zes HVV.out).mono ?_
      rw [bndV_ok Hs.out]
      rintro e w9 ⟨rfl, hb9⟩
      have HB9 := Lib.hid (zaa Hbw.out hb9)
      have V9 := Lib.hid (IsV.stb.next HVV.out hb9)
      clear hb9
      go_wp2_with fail
      go_ret2
      exact ⟨⟨_, rfl, V9.out⟩, HB9.out⟩
theorem wp_makeZ {P : Program} {w : World} {ops : Array Oper} {rest : List Oper} {o : Oper} {a : Act} {Q : Exit → Act → World → Prop} {t e : TypeId} {z : Value} {bytes : Nat} (E : ElT P t e z bytes) (hz1 : z.cells = #[z]) (hg : o.guard = none) (l c : Operand) (hop : o.op = Op.makeSlice t l c) {kl kc : IntKind} {L C : Int} (n : Nat)
    (hl : a.eval l = .int kl L) (hc : a.eval c = .int kc C) (hL : L = (n : Int)) (hC : C = (n : Int)) (hb : n * (bytes + 1) ≤ 140737488355328)
    (hK : ∀ w', Row w' w.heap.size e (List.replicate n z) → Below w.heap.size w w' → Hid (w'.heap.size = w.heap.size + 1) → wpList P ops Q rest (a.put o.dst (.slice (some ⟨w.heap.size, 0, none⟩) n n)) w') :
    wpList P ops Q (o :: rest) a w := by
  obtain ⟨i, h2, h3, h4, hby⟩ := E.info
  rw [Nat.mul_add, Nat.mul_one] at hb
  refine wpList_plain hg fun K hK' => ?_
  have b2 : i.bytes * n ≤ 281474976710656 := by rw [hby, Nat.mul_comm]; omega
  have hb' : (i.bytes : Int) * (n : Int) ≤ 281474976710656 := by
    have h : ((i.bytes * n : Nat) : Int) ≤ 281474976710656 := by omega
    rwa [Int.natCast_mul] at h
  have hr := run_make (P := P) w t e i z E.und h2 h3 kl kc n n (by omega) (Int.le_refl _) hb' (by omega)
  simp only [Int.toNat_natCast] at hr
  subst hL
  subst hC
  unfold Oper.wp
  simp [execOp, hop, hl, hc, hr, Result.andThen]
  refine hK' _ _ (hK _ ?_ ((Below.refl _ _).alloc (Nat.le_refl _) _) (by simp [Hid]))
  unfold Row
  have hm : (List.replicate n z).toArray = madeCells z.cells (n * i.size) := by
    apply Array.ext'
    rw [h4, Nat.mul_one, hz1]
    show _ = (madeCells #[z] n).toList
    rw [toList_madeCells_one]
  rw [hm]
  exact heap_alloc_new w _
end Go.Proofs.YtblpaocignlpkaaDoor
