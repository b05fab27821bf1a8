/-
  The contracts of package exact's Add, Sub, Mul, Cmp, at numbers of one word.
-/
import Derived.Test.YtijjjbgnpfjpmaaGreatDoorProofCoarseHistory02
import Derived.Test.YtijjjbgnpfjpmaaGreatDoorCoh04
import Derived.Test.YtijjjbgnpfjpmaaGreatDoorProofCoarseHistory01
import Derived.Test.YtijjjbgnpfjpmaaGreatDoorCoh01
import Derived.Deep.RegionLaw
import Derived.Test.YtijjjbgnpfjpmaaGreatDoorCoh02
import Derived.OrdersHeld
import Derived.Deep.RegionHeld3
namespace Go.Proofs.YtijjjbgnpfjpmaaGreatDoor
open Go.RowKit
set_option linter.unusedVariables false
theorem add_f {w : World} {va vb : Value} {p q r : Rat} (ha : IsF w va p) (hb : IsF w vb q) (fp : Fz p) (fq : Fz q) (hr : r = p + q) : Calls Tryz.prog 216 #[va, vb] w (RetF w r) := by
  by_cases hp : p = 0
  · exact add_0 ha hb hp hr
  by_cases hq : q = 0
  · exact add_1 ha hb hp hq hr
  · exact add_g ha hb hp hq fp fq hr
theorem Fz.neg {q : Rat} (h : Fz q) : Fz (-q) := by
  refine ⟨?_, h.2⟩
  rw [Rat.neg_num, Int.natAbs_neg]
  exact h.1
set_option maxHeartbeats 1000000 in
theorem sub_f {w : World} {va vb : Value} {p q r : Rat} (ha : IsF w va p) (hb : IsF w vb q) (fp : Fz p) (fq : Fz q) (hr : r = p - q) : Calls Tryz.prog 219 #[va, vb] w (RetF w r) := by
  obtain ⟨Ax, mx, cx, Bx, nx, bx, rfl, hx1, hx2⟩ := ha
  obtain ⟨Ay, my, cy, By, ny, by', rfl, hy1, hy2⟩ := hb
  have X1 := Lib.hid hx1
  have X2 := Lib.hid hx2
  have Y1 := Lib.hid hy1
  have Y2 := Lib.hid hy2
  have HX : Hid (IsF w (.agg #[.bool (decide (p.num < 0)), .slice Ax mx cx, .slice Bx nx bx]) p) := ⟨Ax, mx, cx, Bx, nx, bx, rfl, hx1, hx2⟩
  have HY : Hid (IsF w (.agg #[.bool (decide (q.num < 0)), .slice Ay my cy, .slice By ny by']) q) := ⟨Ay, my, cy, By, ny, by', rfl, hy1, hy2⟩
  obtain ⟨sx, hsx⟩ : ∃ s, s = decide (p.num < 0) := ⟨_, rfl⟩
  obtain ⟨sy, hsy⟩ : ∃ s, s = decide (q.num < 0) := ⟨_, rfl⟩
  rw [← hsx] at HX ⊢
  rw [← hsy] at HY ⊢
  have SX := Lib.hid hsx
  have SY := Lib.hid hsy
  clear hsx hsy
  have HR : Hid (r = p + -q) := by rw [Hid, hr, Rat.sub_eq_add_neg]
  obtain ⟨z, hz⟩ : ∃ z, z = -q := ⟨_, rfl⟩
  rw [← hz] at HR
  have FZ : Hid (Fz p ∧ Fz z) := ⟨fp, by rw [hz]; exact fq.neg⟩
  have HZ0 := Lib.hid hz
  obtain ⟨w0, hw0, hb0, rX, rY, rZ, Hz⟩ := zde w #[.bool sx, .slice Ax mx cx, .slice Bx nx bx] #[.bool sy, .slice Ay my cy, .slice By ny by'] #[.bool false, .slice none 0 0, .slice none 0 0] 150 150 150
  obtain ⟨x0, x1, x2⟩ := zab rX
  obtain ⟨y0, y1, y2⟩ := zab rY
  obtain ⟨cZ0, cZ1, cZ2⟩ := zab rZ
  obtain ⟨fZ0, fZ1, fZ2⟩ := zan rZ
  have HZ := Lib.hid rZ
  have HB := Lib.hid hb0
  clear hx1 hx2 hy1 hy2 fp fq hr hz hb0 rX rY rZ
  go_enter Tryz.func219, Tryz.ntmps219
  go_wp2_with fail
  clear hw0
  have HS := hs6 x0 x1 x2 y0 y1 y2
  have D1 := Lib.hid fun W (hW : Below w0.heap.size w0 W) => neg_f (uI W HY (zaa HB.out hW)) HZ0.out
  have qn0 : w.heap.size ≠ w.heap.size + 1 + 1 := og
  have qn1 : w.heap.size + 1 ≠ w.heap.size + 1 + 1 := og
  have HP := hp3 HS (nA qn0 (nA qn0 (nA qn0 (nA qn1 (nA qn1 (nZ qn1))))))
  clear qn0 qn1
  go_region_held3 (SH.mk _ HS).s
    (first | exact HS.out _ bel | exact HP.out _ bel _ _ _)
    (first
      | (go_at_call 245; (with_reducible refine Calls.mono (D1.out _ bel) ?_); rintro e w1 ⟨⟨v1, rfl, hv1⟩, hb1⟩; have V1 := Lib.hid hv1; obtain ⟨A1, m1, c1, Z1, n1, d1, rfl, _, _⟩ := hv1; have D2 := Lib.hid fun W (hW : Below w1.heap.size w1 W) => add_f (uI W HX (zaa HB.out (zaa (bW w0 w1).out hW))) (V1.out.next hW) FZ.out.1 FZ.out.2 HR.out)
      | (go_at_call 216; (with_reducible refine Calls.mono (D2.out _ bel) ?_); rintro e w2 ⟨⟨v2, rfl, hv2⟩, hb2⟩; have V2 := Lib.hid hv2; obtain ⟨A2, m2, c2, Z2, n2, d2, rfl, _, _⟩ := hv2; have HZ4 := Lib.hid (HZ.out.next (bW w0 w2).out); obtain ⟨dZ0, dZ1, dZ2⟩ := zab HZ4.out; obtain ⟨gZ0, gZ1, gZ2⟩ := zan HZ4.out))
  go_wp2_with fail
  exact zau Tryz.results219 rfl rfl (HZ4.out.put3 _ _ _) (retF HZ4.out V2.out (zaa HB.out (bW w0 w2).out) og)
set_option maxHeartbeats 1000000 in
theorem mul_0 {w : World} {va vb : Value} {p q r : Rat} (ha : IsF w va p) (hb : IsF w vb q) (h0 : p = 0) (hr : r = p * q) : Calls Tryz.prog 217 #[va, vb] w (RetF w r) := by
  obtain ⟨Ax, mx, cx, Bx, nx, bx, rfl, hx1, hx2⟩ := ha
  obtain ⟨Ay, my, cy, By, ny, by', rfl, hy1, hy2⟩ := hb
  have X1 := Lib.hid hx1
  have X2 := Lib.hid hx2
  have Y1 := Lib.hid hy1
  have Y2 := Lib.hid hy2
  have HX : Hid (IsF w (.agg #[.bool (decide (p.num < 0)), .slice Ax mx cx, .slice Bx nx bx]) p) := ⟨Ax, mx, cx, Bx, nx, bx, rfl, hx1, hx2⟩
  have HY : Hid (IsF w (.agg #[.bool (decide (q.num < 0)), .slice Ay my cy, .slice By ny by']) q) := ⟨Ay, my, cy, By, ny, by', rfl, hy1, hy2⟩
  obtain ⟨sx, hsx⟩ : ∃ s, s = decide (p.num < 0) := ⟨_, rfl⟩
  obtain ⟨sy, hsy⟩ : ∃ s, s = decide (q.num < 0) := ⟨_, rfl⟩
  rw [← hsx] at HX ⊢
  rw [← hsy] at HY ⊢
  have SX := Lib.hid hsx
  have SY := Lib.hid hsy
  clear hsx hsy
  have HR : Hid (r = 0) := by rw [Hid, hr, h0, Rat.zero_mul]
  have e0 := flen_z hx1 (num_zero_iff.2 h0)
  obtain ⟨w0, hw0, hb0, rX, rY, rZ, Hz⟩ := zde w #[.bool sx, .slice Ax mx cx, .slice Bx nx bx] #[.bool sy, .slice Ay my cy, .slice By ny by'] #[.bool false, .slice none 0 0, .slice none 0 0] 150 150 150
  obtain ⟨x0, x1, x2⟩ := zab rX
  obtain ⟨y0, y1, y2⟩ := zab rY
  obtain ⟨cZ0, cZ1, cZ2⟩ := zab rZ
  obtain ⟨fZ0, fZ1, fZ2⟩ := zan rZ
  have HZ := Lib.hid rZ
  have HB := Lib.hid hb0
  clear hx1 hx2 hy1 hy2 h0 hr hb0 rX rY rZ Hz
  go_enter Tryz.func217, Tryz.ntmps217
  go_wp2_with fail
  clear hw0
  rw [HR.out]
  exact zau Tryz.results217 rfl rfl (HZ.out.put3 _ _ _) (retF HZ.out zcw HB.out og)
set_option maxHeartbeats 1000000 in
theorem mul_1 {w : World} {va vb : Value} {p q r : Rat} (ha : IsF w va p) (hb : IsF w vb q) (hp : p ≠ 0) (h0 : q = 0) (hr : r = p * q) : Calls Tryz.prog 217 #[va, vb] w (RetF w r) := by
  obtain ⟨Ax, mx, cx, Bx, nx, bx, rfl, hx1, hx2⟩ := ha
  obtain ⟨Ay, my, cy, By, ny, by', rfl, hy1, hy2⟩ := hb
  have X1 := Lib.hid hx1
  have X2 := Lib.hid hx2
  have Y1 := Lib.hid hy1
  have Y2 := Lib.hid hy2
  have HX : Hid (IsF w (.agg #[.bool (decide (p.num < 0)), .slice Ax mx cx, .slice Bx nx bx]) p) := ⟨Ax, mx, cx, Bx, nx, bx, rfl, hx1, hx2⟩
  have HY : Hid (IsF w (.agg #[.bool (decide (q.num < 0)), .slice Ay my cy, .slice By ny by']) q) := ⟨Ay, my, cy, By, ny, by', rfl, hy1, hy2⟩
  obtain ⟨sx, hsx⟩ : ∃ s, s = decide (p.num < 0) := ⟨_, rfl⟩
  obtain ⟨sy, hsy⟩ : ∃ s, s = decide (q.num < 0) := ⟨_, rfl⟩
  rw [← hsx] at HX ⊢
  rw [← hsy] at HY ⊢
  have SX := Lib.hid hsx
  have SY := Lib.hid hsy
  clear hsx hsy
  have HR : Hid (r = 0) := by rw [Hid, hr, h0, Rat.mul_zero]
  have e0 := zdx hx1 (zdi hp)
  have e1 := flen_z hy1 (num_zero_iff.2 h0)
  obtain ⟨w0, hw0, hb0, rX, rY, rZ, Hz⟩ := zde w #[.bool sx, .slice Ax mx cx, .slice Bx nx bx] #[.bool sy, .slice Ay my cy, .slice By ny by'] #[.bool false, .slice none 0 0, .slice none 0 0] 150 150 150
  obtain ⟨x0, x1, x2⟩ := zab rX
  obtain ⟨y0, y1, y2⟩ := zab rY
  obtain ⟨cZ0, cZ1, cZ2⟩ := zab rZ
  obtain ⟨fZ0, fZ1, fZ2⟩ := zan rZ
  have HZ := Lib.hid rZ
  have HB := Lib.hid hb0
  clear hx1 hx2 hy1 hy2 hp h0 hr hb0 rX rY rZ Hz
  go_enter Tryz.func217, Tryz.ntmps217
  go_wp2_with fail
  clear hw0
  rw [HR.out]
  exact zau Tryz.results217 rfl rfl (HZ.out.put3 _ _ _) (retF HZ.out zcw HB.out og)
set_option maxRecDepth 100000 in
set_option maxHeartbeats 2000000 in
theorem mul_g {w : World} {va vb : Value} {p q r : Rat} (ha : IsF w va p) (hb : IsF w vb q) (hp : p ≠ 0) (hq : q ≠ 0) (fp : Fz p) (fq : Fz q) (hr : r = p * q) : Calls Tryz.prog 217 #[va, vb] w (RetF w r) := by
  obtain ⟨Ax, mx, cx, Bx, nx, bx, rfl, hx1, hx2⟩ := ha
  obtain ⟨Ay, my, cy, By, ny, by', rfl, hy1, hy2⟩ := hb
  have X1 := Lib.hid hx1
  have X2 := Lib.hid hx2
  have Y1 := Lib.hid hy1
  have Y2 := Lib.hid hy2
  have HX : Hid (IsF w (.agg #[.bool (decide (p.num < 0)), .slice Ax mx cx, .slice Bx nx bx]) p) := ⟨Ax, mx, cx, Bx, nx, bx, rfl, hx1, hx2⟩
  have HY : Hid (IsF w (.agg #[.bool (decide (q.num < 0)), .slice Ay my cy, .slice By ny by']) q) := ⟨Ay, my, cy, By, ny, by', rfl, hy1, hy2⟩
  obtain ⟨sx, hsx⟩ : ∃ s, s = decide (p.num < 0) := ⟨_, rfl⟩
  obtain ⟨sy, hsy⟩ : ∃ s, s = decide (q.num < 0) := ⟨_, rfl⟩
  rw [← hsx] at HX ⊢
  rw [← hsy] at HY ⊢
  have SX := Lib.hid hsx
  have SY := Lib.hid hsy
  clear hsx hsy
  have e0 := zdx hx1 (zdi hp)
  have e1 := zdx hy1 (zdi hq)
  have FP := Lib.hid fp
  have FQ := Lib.hid fq
  obtain ⟨G, hG⟩ : ∃ G, G = Nat.gcd p.num.natAbs q.den := ⟨_, rfl⟩
  obtain ⟨H, hH⟩ : ∃ H, H = Nat.gcd q.num.natAbs p.den := ⟨_, rfl⟩
  have HG : Hid (G = Nat.gcd p.num.natAbs q.den ∧ H = Nat.gcd q.num.natAbs p.den) := ⟨hG, hH⟩
  have HGs : Hid (G ≠ 0 ∧ S64 G) := by
    have h1 : 0 < Nat.gcd p.num.natAbs q.den := Nat.gcd_pos_of_pos_right _ q.den_pos
    refine ⟨by omega, ?_⟩
    rw [hG]
    exact fq.d.le (Nat.le_of_dvd q.den_pos (Nat.gcd_dvd_right _ _))
  have HHs : Hid (H ≠ 0 ∧ S64 H) := by
    have h1 : 0 < Nat.gcd q.num.natAbs p.den := Nat.gcd_pos_of_pos_right _ p.den_pos
    refine ⟨by omega, ?_⟩
    rw [hH]
    exact fp.d.le (Nat.le_of_dvd p.den_pos (Nat.gcd_dvd_right _ _))
  obtain ⟨b, hb'⟩ : ∃ b, b = (sx != sy) := ⟨_, rfl⟩
  have HQ : Hid (r = mkRat (sg b (p.num.natAbs / G * (q.num.natAbs / H))) (p.den / H * (q.den / G)) ∧ p.den / H * (q.den / G) ≠ 0 ∧ Nat.gcd (p.num.natAbs / G * (q.num.natAbs / H)) (p.den / H * (q.den / G)) = 1) := by
    have h1 := raw_inv (times_raw SX.out SY.out hp hq)
    rw [← hG, ← hH, ← hr, ← hb'] at h1
    exact h1
  have HB1 := Lib.hid hb'
  obtain ⟨w0, hw0, hb0, rX, rY, rZ, Hz⟩ := zde w #[.bool sx, .slice Ax mx cx, .slice Bx nx bx] #[.bool sy, .slice Ay my cy, .slice By ny by'] #[.bool false, .slice none 0 0, .slice none 0 0] 150 150 150
  obtain ⟨x0, x1, x2⟩ := zab rX
  obtain ⟨y0, y1, y2⟩ := zab rY
  obtain ⟨cZ0, cZ1, cZ2⟩ := zab rZ
  obtain ⟨fZ0, fZ1, fZ2⟩ := zan rZ
  have HZ := Lib.hid rZ
  have HB := Lib.hid hb0
  clear hx1 hx2 hy1 hy2 hp hq fp fq hr hG hH hb' hb0 rX rY rZ
  go_enter Tryz.func217, Tryz.ntmps217
  go_wp2_with fail
  clear hw0
  have HS := hs6 x0 x1 x2 y0 y1 y2
  have D1 := Lib.hid fun W (hW : Below w0.heap.size w0 W) => zci (uI W HY (zaa HB.out hW)) rfl
  have D3 := Lib.hid fun W (hW : Below w0.heap.size w0 W) => zci (uI W HX (zaa HB.out hW)) rfl
  go_region_held3 (SH.mk _ HS).s
    (exact HS.out _ bel)
    (first
      | (go_at_call 209; (with_reducible refine Calls.mono (D1.out _ bel) ?_); rintro e w1 ⟨⟨v1, rfl, hv1⟩, hb1⟩; have V1 := Lib.hid hv1; obtain ⟨P1, k1, rfl⟩ := hv1.sl; have D2 := Lib.hid fun W (hW : Below w1.heap.size w1 W) => shared_s (uW W X1 (zaa HB.out (zaa (bW w0 w1).out hW))) (V1.out.next hW) FP.out.n FQ.out.d HG.out.1)
      | (go_at_call 243; (with_reducible refine Calls.mono (D2.out _ bel) ?_); rintro e w2 ⟨⟨v2, rfl, hv2⟩, hb2⟩; have V2 := Lib.hid hv2; obtain ⟨P2, k2, rfl⟩ := hv2.sl)
      | (go_at_call 209; (with_reducible refine Calls.mono (D3.out _ bel) ?_); rintro e w3 ⟨⟨v3, rfl, hv3⟩, hb3⟩; have V3 := Lib.hid hv3; obtain ⟨P3, k3, rfl⟩ := hv3.sl; have D4 := Lib.hid fun W (hW : Below w3.heap.size w3 W) => shared_s (uW W Y1 (zaa HB.out (zaa (bW w0 w3).out hW))) (V3.out.next hW) FQ.out.n FP.out.d HG.out.2)
      | (go_at_call 243; (with_reducible refine Calls.mono (D4.out _ bel) ?_); rintro e w4 ⟨⟨v4, rfl, hv4⟩, hb4⟩; have V4 := Lib.hid hv4; obtain ⟨P4, k4, rfl⟩ := hv4.sl))
  go_wp2_with fail
  have V2' := Lib.hid (V2.out.next (bW w2 w4).out)
  have D5 := Lib.hid fun W (hW : Below w4.heap.size w4 W) => zbe (uW W X1 (zaa HB.out (zaa (bW w0 w4).out hW))) (V2'.out.next hW) FP.out.n HGs.out.2 HGs.out.1 rfl
  have D6 := Lib.hid fun W (hW : Below w4.heap.size w4 W) => zbe (uW W Y1 (zaa HB.out (zaa (bW w0 w4).out hW))) (V4.out.next hW) FQ.out.n HHs.out.2 HHs.out.1 rfl
  go_region_held3 (SH.mk _ HS).s
    (exact HS.out _ bel)
    (first
      | (go_at_call 207; (with_reducible refine Calls.mono (D5.out _ bel) ?_); rintro e w5 ⟨⟨v5, rfl, hv5⟩, hb5⟩; have V5 := Lib.hid hv5; obtain ⟨P5, k5, rfl⟩ := hv5.sl)
      | (go_at_call 207; (with_reducible refine Calls.mono (D6.out _ bel) ?_); rintro e w6 ⟨⟨v6, rfl, hv6⟩, hb6⟩; have V6 := Lib.hid hv6; obtain ⟨P6, k6, rfl⟩ := hv6.sl; have D7 := Lib.hid fun W (hW : Below w6.heap.size w6 W) => zds (V5.out.next (zaa (bW w5 w6).out hW)) (V6.out.next hW) (zbl FP.out.n.div) (zbl FQ.out.n.div) rfl)
      | (go_at_call 214; (with_reducible refine Calls.mono (D7.out _ bel) ?_); rintro e w7 ⟨⟨v7, rfl, hv7⟩, hb7⟩; have V7 := Lib.hid hv7; obtain ⟨P7, k7, rfl⟩ := hv7.sl))
  go_wp2_with fail
  have D8 := Lib.hid fun W (hW : Below w7.heap.size w7 W) => zci (uI W HX (zaa HB.out (zaa (bW w0 w7).out hW))) rfl
  have D9 := Lib.hid fun W (hW : Below w7.heap.size w7 W) => zci (uI W HY (zaa HB.out (zaa (bW w0 w7).out hW))) rfl
  have V4' := Lib.hid (V4.out.next (bW w4 w7).out)
  have V2'' := Lib.hid (V2.out.next (bW w2 w7).out)
  go_region_held3 (SH.mk _ HS).s
    (exact HS.out _ bel)
    (first
      | (go_at_call 209; (with_reducible refine Calls.mono (D8.out _ bel) ?_); rintro e w8 ⟨⟨v8, rfl, hv8⟩, hb8⟩; have V8 := Lib.hid hv8; obtain ⟨P8, k8, rfl⟩ := hv8.sl; have D10 := Lib.hid fun W (hW : Below w8.heap.size w8 W) => zbe (V8.out.next hW) (V4'.out.next (zaa (bW w7 w8).out hW)) FP.out.d HHs.out.2 HHs.out.1 rfl)
      | (go_at_call 207; (with_reducible refine Calls.mono (D10.out _ bel) ?_); rintro e w9 ⟨⟨v9, rfl, hv9⟩, hb9⟩; have V9 := Lib.hid hv9; obtain ⟨P9, k9, rfl⟩ := hv9.sl)
      | (go_at_call 209; (with_reducible refine Calls.mono (D9.out _ bel) ?_); rintro e w10 ⟨⟨v10, rfl, hv10⟩, hb10⟩; have V10 := Lib.hid hv10; obtain ⟨P10, k10, rfl⟩ := hv10.sl; have D11 := Lib.hid fun W (hW : Below w10.heap.size w10 W) => zbe (V10.out.next hW) (V2''.out.next (zaa (bW w7 w10).out hW)) FQ.out.d HGs.out.2 HGs.out.1 rfl)
      | (go_at_call 207; (with_reducible refine Calls.mono (D11.out _ bel) ?_); rintro e w11 ⟨⟨v11, rfl, hv11⟩, hb11⟩; have V11 := Lib.hid hv11; obtain ⟨P11, k11, rfl⟩ := hv11.sl; have D12 := Lib.hid fun W (hW : Below w11.heap.size w11 W) => zds (V9.out.next (zaa (bW w9 w11).out hW)) (V11.out.next hW) (zbl FP.out.d.div) (zbl FQ.out.d.div) rfl)
      | (go_at_call 214; (with_reducible refine Calls.mono (D12.out _ bel) ?_); rintro e w12 ⟨⟨v12, rfl, hv12⟩, hb12⟩; have V12 := Lib.hid hv12; obtain ⟨P12, k12, rfl⟩ := hv12.sl))
  have cs := (SH.mk _ HS).h.out _ (bW w0 w12).out
  have c0 := cs.1
  have c1 := cs.2.2.2.1
  clear cs
  go_wp2_with fail
  rw [show (!(sx == sy)) = b from HB1.out.symm]
  refine (made_f (V7.out.next (bW w7 w12).out) V12.out HQ.out.2.1 HQ.out.2.2 HQ.out.1).mono ?_
  rintro e w13 ⟨⟨v13, rfl, hv13⟩, hb13⟩
  have V13 := Lib.hid hv13
  obtain ⟨A4, m4, q4, B4, n4, d4, rfl, _, _⟩ := hv13
  have HZ4 := Lib.hid (HZ.out.next (bW w0 w13).out)
  obtain ⟨dZ0, dZ1, dZ2⟩ := zab HZ4.out
  obtain ⟨gZ0, gZ1, gZ2⟩ := zan HZ4.out
  go_wp2_with fail
  exact zau Tryz.results217 rfl rfl (HZ4.out.put3 _ _ _) (retF HZ4.out V13.out (zaa HB.out (bW w0 w13).out) og)
theorem mul_f {w : World} {va vb : Value} {p q r : Rat} (ha : IsF w va p) (hb : IsF w vb q) (fp : Fz p) (fq : Fz q) (hr : r = p * q) : Calls Tryz.prog 217 #[va, vb] w (RetF w r) := by
  by_cases hp : p = 0
  · exact mul_0 ha hb hp hr
  by_cases hq : q = 0
  · exact mul_1 ha hb hp hq hr
  · exact mul_g ha hb hp hq fp fq hr
theorem list3 {l : List Value} (h : l.length = 3) : ∃ a b c, l = [a, b, c] := by
  match l, h with
  | [a, b, c], _ => exact ⟨a, b, c, rfl⟩
theorem cells_set3 {es : List Value} (h : Wid 3 es) {j : Nat} (hj : j < es.length) (x y z : Value) : cellsOf (es.set j (.agg #[x, y, z])) = (((cellsOf es).set (j * 3) x).set (j * 3 + 1) y).set (j * 3 + 2) z := by
  induction es generalizing j with
  | nil => simp at hj
  | cons v es ih =>
    obtain ⟨h1, h2⟩ := h.cons
    obtain ⟨a, b, c, hv⟩ := list3 (l := v.cells.toList) (by rw [Array.length_toList, h1])
    have e1 : cellsOf (v :: es) = a :: b :: c :: cellsOf es := by simp [cellsOf, hv]
    cases j with
    | zero => rw [e1, List.set_cons_zero]; simp [cellsOf, Value.cells]
    | succ j =>
      have e2 : cellsOf (v :: es.set j (.agg #[x, y, z])) = a :: b :: c :: cellsOf (es.set j (.agg #[x, y, z])) := by simp [cellsOf, hv]
      rw [List.set_cons_succ, e1, e2, ih h2 (by simpa using hj), show (j + 1) * 3 = j * 3 + 1 + 1 + 1 by omega, show j * 3 + 1 + 1 + 1 + 1 = j * 3 + 1 + 1 + 1 + 1 from rfl]
      simp only [List.set_cons_succ]
def RowE (w : World) (g : Nat) (t : TypeId) (es : List Value) : Prop := Row w g t (cellsOf es) ∧ Wid 3 es
abbrev pt3 (w : World) (g j : Nat) (x y z : Value) : World := ((w.setCell ⟨g, j * 3, none⟩ x).setCell ⟨g, j * 3 + 1, none⟩ y).setCell ⟨g, j * 3 + 2, none⟩ z
section
variable {w w' : World} {g : Nat} {t : TypeId} {es : List Value}
theorem RowE.next (h : RowE w g t es) (hb : Below w.heap.size w w') : RowE w' g t es := ⟨h.1.next hb, h.2⟩
theorem RowE.put (h : RowE w g t es) {j : Nat} (hj : j < es.length) (x y z : Value) : RowE (pt3 w g j x y z) g t (es.set j (.agg #[x, y, z])) := by
  refine ⟨?_, ?_⟩
  · rw [cells_set3 h.2 hj]
    exact ((h.1.set_ _ x).set_ _ y).set_ _ z
  · intro v hv
    rcases List.mem_or_eq_of_mem_set hv with h1 | h1
    · exact h.2 v h1
    · rw [h1]; rfl
theorem RowE.kt (h : RowE w g t es) (ht : t ≠ 212) (ht2 : t ≠ 160) (j : Nat) (x y z : Value) : KT w (pt3 w g j x y z) :=
  ((KT.set h.1 ht ht2 (j * 3) x).trans (KT.set (h.1.set_ _ x) ht ht2 (j * 3 + 1) y)).trans (KT.set ((h.1.set_ _ x).set_ _ y) ht ht2 (j * 3 + 2) z)
theorem RowE.cells (h : RowE w g t es) {j : Nat} {x y z : Value} (he : es[j]? = some (.agg #[x, y, z])) :
    w.cell? ⟨g, j * 3, none⟩ = some x ∧ w.cell? ⟨g, j * 3 + 1, none⟩ = some y ∧ w.cell? ⟨g, j * 3 + 2, none⟩ = some z := by
  rw [h.1.cell, h.1.cell, h.1.cell]
  exact ⟨zba (i := 0) h.2 he rfl, zba (i := 1) h.2 he rfl, zba (i := 2) h.2 he rfl⟩
theorem RowE.free (h : RowE w g t es) (j : Nat) : w.frozen? ⟨g, j * 3, none⟩ = false ∧ w.frozen? ⟨g, j * 3 + 1, none⟩ = false ∧ w.frozen? ⟨g, j * 3 + 2, none⟩ = false := ⟨h.1.frozen _, h.1.frozen _, h.1.frozen _⟩
theorem RowE.any (h : RowE w g t es) {j : Nat} (hj : j < es.length) : ∃ x y z, w.cell? ⟨g, j * 3, none⟩ = some x ∧ w.cell? ⟨g, j * 3 + 1, none⟩ = some y ∧ w.cell? ⟨g, j * 3 + 2, none⟩ = some z := by
  obtain ⟨a, b, c, hv⟩ := list3 (l := (es[j]).cells.toList) (by rw [Array.length_toList, h.2 _ (List.getElem_mem hj)])
  have h0 : ∀ i u, [a, b, c][i]? = some u → (es[j]).cells[i]? = some u := fun i u hu => by rw [← hv] at hu; rwa [Array.getElem?_toList] at hu
  have he := List.getElem?_eq_getElem hj
  refine ⟨a, b, c, ?_, ?_, ?_⟩
  · rw [h.1.cell]; exact zba (i := 0) h.2 he (h0 0 a rfl)
  · rw [h.1.cell]; exact zba (i := 1) h.2 he (h0 1 b rfl)
  · rw [h.1.cell]; exact zba (i := 2) h.2 he (h0 2 c rfl)
end
theorem zez {w w1 : World} {n g j : Nat} (h : Below n w w1) (hg : n ≤ g) (x y z : Value) : Below n w (pt3 w1 g j x y z) := ((h.setCell (p := ⟨g, j * 3, none⟩) hg x).setCell (p := ⟨g, j * 3 + 1, none⟩) hg y).setCell (p := ⟨g, j * 3 + 2, none⟩) hg z
theorem made3 (n : Nat) (x y z : Value) : (madeCells #[x, y, z] (n * 3)).toList = cellsOf (List.replicate n (.agg #[x, y, z])) := by
  have hw : Wid 3 (List.replicate n (Value.agg #[x, y, z])) := fun v hv => by rw [(List.mem_replicate.1 hv).2]; rfl
  have hl := zdb hw
  rw [List.length_replicate] at hl
  refine List.ext_getElem? fun i => ?_
  by_cases hi : i < n * 3
  · have hj : i / 3 < n := by omega
    have h2 : ∀ k, k < 3 → (#[x, y, z] : Array Value)[k]? = some (#[x, y, z][k]!) := fun k hk => by
      match k, hk with
      | 0, _ => rfl
      | 1, _ => rfl
      | 2, _ => rfl
    have h1 := zba hw (j := i / 3) (i := i % 3) (e := .agg #[x, y, z]) (by rw [List.getElem?_replicate, if_pos hj]) (h2 (i % 3) (by omega))
    rw [show i / 3 * 3 + i % 3 = i by omega] at h1
    rw [h1]
    simp [madeCells, hi]
  · rw [List.getElem?_eq_none (by simp [size_madeCells]; omega), List.getElem?_eq_none (by omega)]
structure El3 (P : Program) (t e : TypeId) (x y z : Value) (bytes : Nat) : Prop where
  und : P.underlying t = some (.slice e)
  info : ∃ i, P.info? e = some i ∧ i.zero = some (.agg #[x, y, z]) ∧ i.size = 3 ∧ i.bytes = bytes
theorem wp_make3 {P : Program} {w : World} {ops : Array Oper} {rest : List Oper} {o : Oper} {a : Act} {Q : Exit → Act → World → Prop} {t e : TypeId} {x y z : Value} {bytes : Nat} (E : El3 P t e x y z bytes) (hg : o.guard = none) (l c : Operand) (hop : o.op = Op.makeSlice t l c) {kl kc : IntKind} {L C : Int} (n : Nat)
    (hl : a.eval l = .int kl L) (hc : a.eval c = .int kc C) (hL : L = (n : Int)) (hC : C = (n : Int)) (hb : n * (bytes + 1) ≤ 140737488355328)
    (hK : ∀ w', RowE w' w.heap.size e (List.replicate n (.agg #[x, y, z])) → Below w.heap.size w w' → Hid (w'.heap.size = w.heap.size + 1) → wpList P ops Q rest (a.put o.dst (.slice (some ⟨w.heap.size, 0, none⟩) n n)) w') :
    wpList P ops Q (o :: rest) a w := by
  obtain ⟨i, h2, h3, h4, hby⟩ := E.info
  rw [Nat.mul_add, Nat.mul_one] at hb
  refine wpList_plain hg fun K hK' => ?_
  have b2 : i.bytes * n ≤ 281474976710656 := by rw [hby, Nat.mul_comm]; omega
  have hb' : (i.bytes : Int) * (n : Int) ≤ 281474976710656 := by
    have h : ((i.bytes * n : Nat) : Int) ≤ 281474976710656 := og
    rwa [Int.natCast_mul] at h
  have hr := run_make (P := P) w t e i _ E.und h2 h3 kl kc n n og (Int.le_refl _) hb' og
  simp only [Int.toNat_natCast] at hr
  subst hL
  subst hC
  unfold Oper.wp
  simp [execOp, hop, hl, hc, hr, Result.andThen]
  refine hK' _ _ (hK _ ⟨?_, fun v hv => by rw [(List.mem_replicate.1 hv).2]; rfl⟩ ((Below.refl _ _).alloc (Nat.le_refl _) _) (by simp [Hid]))
  unfold Row
  rw [← made3, h4]
  exact heap_alloc_new w _
theorem frac_info : (Tryz.prog.info? 150).map (fun i => (i.zero, i.size, i.bytes)) = some (some (.agg #[.bool false, .slice none 0 0, .slice none 0 0]), 3, 56) := by kernel_rfl
theorem elFr : El3 Tryz.prog 146 150 (.bool false) (.slice none 0 0) (.slice none 0 0) 56 := ⟨Tryz.underlying146, info_parts frac_info⟩
theorem elRr : El3 Tryz.prog 25 30 (.bool false) (.slice none 0 0) (.slice none 0 0) 56 := ⟨Tryz.underlying25, info_parts rat_info⟩
def SVT (w : World) (t : TypeId) (A : Option Addr) (xs : List Value) : Prop :=
  xs ≠ [] → ∃ b off cs s, A = some ⟨b, off, none⟩ ∧ w.heap[b]? = some (Obj.cells cs t s) ∧ ∀ j v, xs[j]? = some v → w.cell? ⟨b, off + j, none⟩ = some v
theorem SVT.keep {w w' : World} {t : TypeId} {A : Option Addr} {xs : List Value} (h : SVT w t A xs) (hk : ∀ (b : Nat) cs s, w.heap[b]? = some (Obj.cells cs t s) → w'.heap[b]? = w.heap[b]?) : SVT w' t A xs := fun hx => by
  obtain ⟨b, off, cs, s, hA, hb, hc⟩ := h hx
  exact ⟨b, off, cs, s, hA, (hk b cs s hb).trans hb, fun j v hv => (World.cell?_of_block (hk b cs s hb)).trans (hc j v hv)⟩
theorem SVT.row {w : World} {g : Nat} {t : TypeId} {xs : List Value} (h : Row w g t xs) : SVT w t (some ⟨g, 0, none⟩) xs :=
  fun _ => ⟨g, 0, _, _, rfl, h, fun j v hv => by rw [Nat.zero_add, h.cell]; exact hv⟩
def KF (w w' : World) : Prop := KT w w' ∧ ∀ (b : Nat) cs s, w.heap[b]? = some (Obj.cells cs 150 s) → w'.heap[b]? = w.heap[b]?
theorem KF.trans {a b c : World} (h : KF a b) (k : KF b c) : KF a c := ⟨h.1.trans k.1, fun i cs s hi => (k.2 i cs s ((h.2 i cs s hi).trans hi)).trans (h.2 i cs s hi)⟩
theorem KF.of {w w' : World} (hb : Below w.heap.size w w') : KF w w' := ⟨.of hb, fun b _ _ h => hb.block b (zag h)⟩
def IsFs (w : World) (v : Value) (l : List Rat) : Prop := ∃ A c es, v = .slice A l.length c ∧ l.length ≤ c ∧ c ≤ maxLen ∧ SVT w 150 A (cellsOf es) ∧ Wid 3 es ∧ All2 (IsF w) es l
theorem IsFs.kf {w w' : World} {v : Value} {l : List Rat} (h : IsFs w v l) (hk : KF w w') : IsFs w' v l := by
  obtain ⟨A, c, es, hv, h1, h2, h3, h4, h5⟩ := h
  exact ⟨A, c, es, hv, h1, h2, h3.keep hk.2, h4, h5.imp fun _ _ h => h.ku hk.1.1⟩
theorem IsFs.next {w w' : World} {v : Value} {l : List Rat} (h : IsFs w v l) (hb : Below w.heap.size w w') : IsFs w' v l := h.kf (.of hb)
theorem IsFs.get {w : World} {A : Option Addr} {m c : Nat} {l : List Rat} (h : IsFs w (.slice A m c) l) {j : Nat} {q : Rat} (hj : l[j]? = some q) :
    ∃ b off x y z, A = some ⟨b, off, none⟩ ∧ b < w.heap.size ∧ IsF w (.agg #[x, y, z]) q ∧ w.cell? ⟨b, off + j * 3, none⟩ = some x ∧ w.cell? ⟨b, off + (j * 3 + 1), none⟩ = some y ∧ w.cell? ⟨b, off + (j * 3 + 2), none⟩ = some z := by
  obtain ⟨A', c', es, hv, h1, h2, h3, h4, h5⟩ := h
  simp only [Value.slice.injEq] at hv
  obtain ⟨rfl, rfl, rfl⟩ := hv
  obtain ⟨e, he, hr⟩ := h5.get hj
  have hne : cellsOf es ≠ [] := by
    intro h0
    have hl := zdb h4
    rw [h0] at hl
    have : j < es.length := (List.getElem?_eq_some_iff.1 he).1
    simp at hl
    omega
  obtain ⟨b, off, cs, s, hA, hb, hc⟩ := h3 hne
  have hr' := hr
  obtain ⟨P, m, k, S, n, d, rfl, _, _⟩ := hr'
  exact ⟨b, off, _, _, _, hA, zag hb, hr, hc _ _ (zba (i := 0) h4 he rfl), hc _ _ (zba (i := 1) h4 he rfl), hc _ _ (zba (i := 2) h4 he rfl)⟩
theorem isFs_row {w : World} {g : Nat} {es : List Value} {l : List Rat} (h : RowE w g 150 es) (ha : All2 (IsF w) es l) (hl : l.length ≤ maxLen) : IsFs w (.slice (some ⟨g, 0, none⟩) l.length l.length) l :=
  ⟨_, _, es, rfl, Nat.le_refl _, hl, SVT.row h.1, h.2, ha⟩
theorem IsFs.hd {w : World} {v : Value} {l : List Rat} (h : IsFs w v l) : ∃ A c, v = .slice A l.length c ∧ l.length ≤ maxLen := by
  obtain ⟨A, c, es, hv, h1, h2, _⟩ := h
  exact ⟨A, c, hv, by omega⟩
def Fil {α : Type} (R : Value → α → Prop) (es : List Value) (l : List α) (k : Nat) : Prop := es.length = l.length ∧ ∀ j q, j < k → l[j]? = some q → ∃ e, es[j]? = some e ∧ R e q
theorem Fil.imp {α : Type} {R Q : Value → α → Prop} {es : List Value} {l : List α} {k : Nat} (h : Fil R es l k) (hq : ∀ e q, R e q → Q e q) : Fil Q es l k := ⟨h.1, fun j q hj hl => by
  obtain ⟨e, h1, h2⟩ := h.2 j q hj hl
  exact ⟨e, h1, hq e q h2⟩⟩
theorem Fil.set {α : Type} {R : Value → α → Prop} {es : List Value} {l : List α} {k : Nat} {e : Value} {q : α} (h : Fil R es l k) (hk : l[k]? = some q) (hr : R e q) : Fil R (es.set k e) l (k + 1) := by
  have hkl : k < l.length := (List.getElem?_eq_some_iff.1 hk).1
  refine ⟨by rw [List.length_set]; exact h.1, fun j q' hj hl => ?_⟩
  by_cases hjk : k = j
  · subst hjk
    rw [hk] at hl
    cases hl
    exact ⟨e, List.getElem?_set_self (by rw [h.1]; exact hkl), hr⟩
  · rw [List.getElem?_set_ne hjk]
    exact h.2 j q' (by omega) hl
theorem Fil.all {α : Type} {R : Value → α → Prop} {es : List Value} {l : List α} {k : Nat} (h : Fil R es l k) (hk : l.length ≤ k) : All2 R es l := ⟨h.1, fun j x y hx hy => by
  obtain ⟨e, h1, h2⟩ := h.2 j y (Nat.lt_of_lt_of_le (List.getElem?_eq_some_iff.1 hy).1 hk) hy
  rw [hx] at h1
  cases h1
  exact h2⟩
theorem Fil.zero {α : Type} {R : Value → α → Prop} {es : List Value} {l : List α} (h : es.length = l.length) : Fil R es l 0 := ⟨h, fun j q hj => by omega⟩
def RetFs (w : World) (l : List Rat) (e : Ending) (w' : World) : Prop := (∃ v, e = .returned v ∧ IsFs w' v l) ∧ Below w.heap.size w w'
set_option maxRecDepth 100000 in
set_option maxHeartbeats 2000000 in
theorem list_f {w : World} {v : Value} {l : List Rat} (h : IsV w (Old w) v (l.map raw)) (hl : l.length ≤ 100000) (hq : ∀ q ∈ l, L1Q q) : Calls Tryz.prog 166 #[v] w (RetFs w l) := by
  have HV := Lib.hid h
  have HL := Lib.hid hq
  obtain ⟨A, c, es, rfl, _, _, _⟩ := h
  rw [List.length_map] at HV ⊢
  clear hq
  go_enter Tryz.func166, Tryz.ntmps166
  go_wp2_with (at_make; refine wp_make3 elFr rfl _ _ rfl l.length rfl rfl rfl rfl og ?_; intro w1 hrow hb1 hz1)
  obtain ⟨G, hG⟩ : ∃ G, G = w.heap.size := ⟨_, rfl⟩
  rw [← hG] at hrow
  rw [← hG]
  have HG := Lib.hid hG
  clear hG
  go_loopw [11] (fun i wr => ∃ (k : Nat) (fs : List Value), k ≤ l.length ∧ i = .int .i64 (k : Int) ∧ RowE wr G 150 fs ∧ Below w.heap.size w wr ∧ Hid (Fil (IsF wr) fs l k)) (fun i _ => l.length - (intOf i).toNat)
  case atStart => exact ⟨0, _, Nat.zero_le _, rfl, hrow, hb1, Fil.zero (by simp)⟩
  case round =>
    clear hrow hb1 hz1
    obtain ⟨k, fs, hk, rfl, hr, hbw, hf⟩ := hrel
    have HR := Lib.hid hr
    have HBW := Lib.hid hbw
    rcases Nat.lt_or_ge k l.length with hlt | hge
    · obtain ⟨q, hq⟩ : ∃ q, l[k]? = some q := ⟨_, List.getElem?_eq_getElem hlt⟩
      have HQ := Lib.hid hq
      have hV := IsV.stb.next HV.out hbw
      obtain ⟨b, off, e, rfl, hbS, hre, _, hcs⟩ := IsS.get hV (by omega) (j := k) (x := raw q) (by rw [List.getElem?_map, hq]; rfl)
      have HE := Lib.hid (show IsQ wr (Old wr) e q from hre)
      obtain ⟨neg, P, p, S, s, rfl, _, _, _⟩ := zar hre
      have c0 := hcs 0 _ rfl
      have c1 := hcs 1 _ rfl
      have c2 := hcs 2 _ rfl
      rw [Nat.add_zero] at c0
      rw [← Nat.add_assoc] at c1 c2
      obtain ⟨w2, hw2, hb2, rB, Hz2⟩ := zao wr #[.bool neg, .slice P (lim q.num.natAbs).length p, .slice S (lim q.den).length s] 30
      have HB2 := Lib.hid hb2
      obtain ⟨b0, b1, b2⟩ := zab rB
      clear hV hcs hre hq hr hbw hb2 rB
      go_wp2_with fail
      clear hw2
      refine (from_f (IsQ.stb.next HE.out HB2.out) (HL.out q (List.mem_of_getElem? HQ.out))).mono ?_
      rintro e w3 ⟨⟨v3, rfl, hv3⟩, hb3⟩
      have V3 := Lib.hid hv3
      obtain ⟨A4, m4, c4, B4, n4, d4, rfl, _, _⟩ := hv3
      have HB3 := Lib.hid (zaa HB2.out hb3)
      have HR3 := Lib.hid (HR.out.next HB3.out)
      have hkf : k < fs.length := by rw [hf.out.1]; exact hlt
      obtain ⟨x, y, z, d0, d1, d2⟩ := HR3.out.any hkf
      obtain ⟨f0, f1, f2⟩ := HR3.out.free k
      have HK := Lib.hid hkf
      clear hkf hb3
      go_wp2_with fail
      go_roundw
      case rel =>
        exact ⟨k + 1, _, by omega, by go_num, HR3.out.put HK.out _ _ _, zez (zaa HBW.out HB3.out) (by have := HG.out; omega) _ _ _,
          Fil.set (hf.out.imp fun e q h => (h.next HB3.out).ku (HR3.out.kt zdy rat_ne.2.2 k _ _ _).1) HQ.out (V3.out.ku (HR3.out.kt zdy rat_ne.2.2 k _ _ _).1)⟩
      case measure => simp [intOf]; omega
    · obtain rfl : k = l.length := og
      go_wp2_with fail
      go_ret
      exact ⟨⟨_, rfl, isFs_row HR.out (hf.out.all (Nat.le_refl _)) (by unfold maxLen; omega)⟩, HBW.out⟩
structure NFok (sz : List Nat) (ps : List (List Rat)) : Prop where
  l1 : 1 ≤ sz.length
  l4 : sz.length ≤ 4
  pos : ∀ x ∈ sz, 1 ≤ x
  prod : prd sz ≤ 36
  sum : sz.sum ≤ 36
  len : ps.length = sz.length
  row : ∀ r ∈ ps, r.length = prd sz
  num : ∀ r ∈ ps, ∀ q ∈ r, L1Q q
def rawT (ps : List (List Rat)) : List (List Raw) := ps.map fun r => r.map raw
def IsNF (w : World) (v : Value) (sz : List Nat) (ps : List (List Rat)) : Prop :=
  ∃ A c B d, v = .agg #[.slice A sz.length c, .slice B ps.length d] ∧ IsNs w (.slice A sz.length c) sz ∧ IsM w (Old w) (.slice B ps.length d) (rawT ps)
theorem IsNF.next {w w' : World} {v : Value} {sz : List Nat} {ps : List (List Rat)} (h : IsNF w v sz ps) (hb : Below w.heap.size w w') : IsNF w' v sz ps := by
  obtain ⟨A, c, B, d, hv, h1, h2⟩ := h
  exact ⟨A, c, B, d, hv, h1.next hb, IsM.stb.next h2 hb⟩
theorem L1Q.chk {q : Rat} (h : L1Q q) : chkQ (raw q) = 0 := by
  obtain ⟨h1, h2⟩ := h
  exact chkQ_raw ⟨Nat.le_trans h1.len (by omega), Nat.le_trans h2.len (by omega)⟩
theorem row2 {w : World} {g : Nat} {t : TypeId} {x y : Value} (h : Row w g t [x, y]) : w.cell? ⟨g, 0, none⟩ = some x ∧ w.cell? ⟨g, 1, none⟩ = some y := ⟨h.cell 0, h.cell 1⟩
set_option maxRecDepth 100000 in
set_option maxHeartbeats 2000000 in
theorem ncheck_ok {w : World} {v : Value} {sz : List Nat} {ps : List (List Rat)} (h : IsNF w v sz ps) (ok : NFok sz ps) (hB : Bru w) : Calls Tryz.prog 165 #[v] w fun e w' => e = .returned (.int .i64 0) ∧ Below w.heap.size w w' := by
  obtain ⟨A, c, B, d, rfl, h1, h2⟩ := h
  have H1 := Lib.hid h1
  have H2 := Lib.hid h2
  have OK := Lib.hid ok
  have HB := Lib.hid hB
  obtain ⟨w0, hw0, hb0, r, Hz⟩ := zao w #[.slice A sz.length c, .slice B ps.length d] 64
  have HB0 := Lib.hid hb0
  have HR := Lib.hid r
  obtain ⟨x0, x1⟩ := row2 r
  have hlen : (((ps.length : Nat) : Int) != ((sz.length : Nat) : Int)) = false := by rw [ok.len]; simp
  have hpl : ps.length ≤ 4 := by rw [ok.len]; exact ok.l4
  have hprod := Lib.hid fun W (hW : Below w.heap.size w W) => product_nn (H1.out.next hW) OK.out.pos (Nat.le_trans OK.out.prod (by omega)) _ rfl
  obtain ⟨P, hP⟩ : ∃ P, P = prd sz := ⟨_, rfl⟩
  rw [← hP] at hprod
  have HP := Lib.hid hP
  have hP1 : P ≤ 36 := by rw [hP]; exact ok.prod
  clear h1 h2 ok hB r hb0 hP
  go_enter Tryz.func165, Tryz.ntmps165
  go_wp2_with fail
  clear hw0
  refine (sizes_ok (H1.out.next HB0.out) OK.out.pos (Nat.le_trans OK.out.prod (by omega)) OK.out.l1 OK.out.l4).mono ?_
  rintro e w1 ⟨rfl, rfl⟩
  go_wp2_with fail
  go_loopw [25] (fun i wr => ∃ k : Nat, k ≤ ps.length ∧ i = .int .i64 (k : Int) ∧ Below w0.heap.size w0 wr) (fun i _ => ps.length - (intOf i).toNat)
  case atStart => exact ⟨0, Nat.zero_le _, rfl, Below.refl _ _⟩
  case round =>
    obtain ⟨k, hk, rfl, hbw⟩ := hrel
    have HBW := Lib.hid hbw
    rcases Nat.lt_or_ge k ps.length with hlt | hge
    · have hx := List.getElem?_eq_getElem hlt
      obtain ⟨rw', hre⟩ : ∃ r, r = ps[k] := ⟨_, rfl⟩
      rw [← hre] at hx
      have hmem : rw' ∈ ps := List.mem_of_getElem? hx
      have hM := IsM.stb.next (IsM.stb.next H2.out HB0.out) hbw
      obtain ⟨b, off, A1, c1, rfl, _, hiv, hcell⟩ := isM_get hM (j := k) (l := rw'.map raw) (by unfold rawT; rw [List.getElem?_map, hx]; rfl)
      have HV := Lib.hid hiv
      have hrl : rw'.length = P := by rw [HP.out]; exact OK.out.row _ hmem
      have Hnum := Lib.hid (OK.out.num _ hmem)
      rw [List.length_map] at hcell HV
      obtain ⟨y0, y1⟩ := row2 (HR.out.next hbw)
      have hne : ((rw'.length : Int) != (P : Int)) = false := by rw [hrl]; simp
      have hrl1 : rw'.length ≤ 36 := by rw [hrl]; exact hP1
      have HW1 := Lib.hid (zaa HB0.out hbw)
      clear hM hiv hre hx hmem hbw hrl
      go_wp2_with fail
      refine (hprod.out _ HW1.out).mono ?_
      rintro e w2 ⟨rfl, rfl⟩
      go_wp2_with fail
      go_loopw [37] (fun i wi => ∃ j : Nat, j ≤ rw'.length ∧ i = .int .i64 (j : Int) ∧ Below wr.heap.size wr wi) (fun i _ => rw'.length - (intOf i).toNat)
      case atStart => exact ⟨0, Nat.zero_le _, rfl, Below.refl _ _⟩
      case round =>
        clear y0 y1 hcell x0 x1
        obtain ⟨j, hj, rfl, hbi⟩ := hrel
        have HBI := Lib.hid hbi
        rcases Nat.lt_or_ge j rw'.length with hjl | hjg
        · have hq := List.getElem?_eq_getElem hjl
          obtain ⟨q, hqe⟩ : ∃ q, q = rw'[j] := ⟨_, rfl⟩
          rw [← hqe] at hq
          have Hc := Lib.hid ((Hnum.out q (List.mem_of_getElem? hq)).chk)
          have hV := IsV.stb.next HV.out hbi
          obtain ⟨b2, off2, P2, p, S, s, rfl, _, hre, c0, c1', c2⟩ := isV_get hV (j := j) (r := raw q) (by rw [List.getElem?_map, hq]; rfl)
          obtain ⟨neg, hneg⟩ : ∃ neg, neg = (raw q).neg := ⟨_, rfl⟩
          rw [← hneg] at c0 hre
          have HE := Lib.hid hre
          obtain ⟨w2, hw2, hb2, rB, Hz2⟩ := zao wr #[.bool neg, .slice P2 (raw q).num.length p, .slice S (raw q).den.length s] 30
          have HB2 := Lib.hid hb2
          obtain ⟨b0, b1, b2'⟩ := zab rB
          clear hV hre hq hqe hneg hbi hb2 rB
          go_wp2_with fail
          clear hw2
          have hcheck := check_q (IsR.stb.next HE.out HB2.out) (Bru.next HB.out (zaa HW1.out (zaa HBI.out HB2.out)))
          rw [Hc.out] at hcheck
          refine hcheck.mono ?_
          rintro e w3 ⟨rfl, hb3⟩
          have HB3 := Lib.hid (zaa HBI.out (zaa HB2.out hb3))
          clear hb3 hcheck
          go_wp2_with fail
          go_roundw
          case rel => exact ⟨j + 1, by omega, by go_num, HB3.out⟩
          case measure => simp [intOf]; omega
        · obtain rfl : j = rw'.length := og
          go_wp2_with fail
          go_roundw
          case rel => exact ⟨k + 1, by omega, by go_num, zaa HBW.out HBI.out⟩
          case measure => simp [intOf]; omega
    · obtain rfl : k = ps.length := og
      go_wp2_with fail
      go_ret
      exact ⟨rfl, zaa HB0.out HBW.out⟩
theorem foldl_mul (l : List Nat) (a : Nat) : l.foldl (· * ·) a = a * l.foldl (· * ·) 1 := by
  induction l generalizing a with
  | nil => simp
  | cons x l ih => rw [List.foldl_cons, List.foldl_cons, ih, ih (1 * x), Nat.one_mul, Nat.mul_assoc]
theorem zco (x : Nat) (l : List Nat) : prd (x :: l) = x * prd l := by
  unfold prd
  rw [List.foldl_cons, foldl_mul, Nat.one_mul]
theorem prd_drop {l : List Nat} {k x : Nat} (h : l[k]? = some x) : prd (l.drop k) = x * prd (l.drop (k + 1)) := by
  have hk : k < l.length := (List.getElem?_eq_some_iff.1 h).1
  have he : l[k] = x := (List.getElem?_eq_some_iff.1 h).2
  rw [List.drop_eq_getElem_cons hk, zco, he]
theorem zee (l : List Nat) (k : Nat) : prd l = prd (l.take k) * prd (l.drop k) := by
  have e : prd l = prd (l.take k ++ l.drop k) := by rw [List.take_append_drop]
  rw [e]
  unfold prd
  rw [List.foldl_append, foldl_mul]
theorem prd_drop_le {l : List Nat} (h : ∀ x ∈ l, 1 ≤ x) (k : Nat) : prd (l.drop k) ≤ prd l := by
  rw [zee l k]
  exact Nat.le_mul_of_pos_left _ (prd_pos h k)
theorem prd_drop_pos {l : List Nat} (h : ∀ x ∈ l, 1 ≤ x) (k : Nat) : 1 ≤ prd (l.drop k) := by
  have := prd_pos (l := l.drop k) (fun x hx => h x (List.mem_of_mem_drop hx)) (l.drop k).length
  rwa [List.take_length] at this
theorem sum_drop {l : List Nat} {k x : Nat} (h : l[k]? = some x) : (l.drop k).sum = x + (l.drop (k + 1)).sum := by
  have hk : k < l.length := (List.getElem?_eq_some_iff.1 h).1
  have he : l[k] = x := (List.getElem?_eq_some_iff.1 h).2
  rw [List.drop_eq_getElem_cons hk, List.sum_cons, he]
theorem zdr (l : List Nat) (k : Nat) : (l.drop k).sum ≤ l.sum := by
  have e : l.sum = (l.take k ++ l.drop k).sum := by rw [List.take_append_drop]
  rw [e, List.sum_append]
  omega
def stp (sz : List Nat) : List Nat := (List.range sz.length).map fun j => prd (sz.drop (j + 1))
theorem stp_len (sz : List Nat) : (stp sz).length = sz.length := by simp [stp]
theorem stp_at {sz : List Nat} {j : Nat} (h : j < sz.length) : (stp sz)[j]? = some (prd (sz.drop (j + 1))) := by
  unfold stp
  rw [List.getElem?_map, List.getElem?_range h]
  rfl
theorem stp_of {sz L : List Nat} (hl : L.length = sz.length) (h : ∀ j, j < sz.length → L.getD j 0 = prd (sz.drop (j + 1))) : L = stp sz := by
  refine List.ext_getElem? fun j => ?_
  by_cases hj : j < sz.length
  · rw [stp_at hj, List.getElem?_eq_getElem (by omega)]
    have := h j hj
    rw [List.getD_eq_getElem?_getD, List.getElem?_eq_getElem (by omega), Option.getD_some] at this
    rw [this]
  · rw [List.getElem?_eq_none (by omega), List.getElem?_eq_none (by rw [stp_len]; omega)]
def IsFM (w : World) (v : Value) (ps : List (List Rat)) : Prop := ∃ A c es, v = .slice A ps.length c ∧ ps.length ≤ c ∧ c ≤ maxLen ∧ SVT w 146 A es ∧ All2 (IsFs w) es ps
theorem IsFM.next {w w' : World} {v : Value} {ps : List (List Rat)} (h : IsFM w v ps) (hb : Below w.heap.size w w') : IsFM w' v ps := by
  obtain ⟨A, c, es, hv, h1, h2, h3, h4⟩ := h
  exact ⟨A, c, es, hv, h1, h2, h3.keep fun b cs s hb' => hb.block b (zag hb'), h4.imp fun _ _ h => h.next hb⟩
theorem IsFM.get {w : World} {A : Option Addr} {m c : Nat} {ps : List (List Rat)} (h : IsFM w (.slice A m c) ps) {j : Nat} {r : List Rat} (hj : ps[j]? = some r) :
    ∃ b off B d, A = some ⟨b, off, none⟩ ∧ IsFs w (.slice B r.length d) r ∧ w.cell? ⟨b, off + j, none⟩ = some (.slice B r.length d) := by
  obtain ⟨A', c', es, hv, _, _, hs, ha⟩ := h
  simp only [Value.slice.injEq] at hv
  obtain ⟨rfl, rfl, rfl⟩ := hv
  obtain ⟨e, he, hr⟩ := ha.get hj
  obtain ⟨b, off, _, _, hA, _, hc⟩ := hs (by rintro rfl; simp at he)
  obtain ⟨B, d, rfl, _⟩ := hr.hd
  exact ⟨b, off, B, d, hA, hr, hc j _ he⟩
def IsForm (w : World) (v : Value) (sz : List Nat) (ps : List (List Rat)) : Prop :=
  ∃ A a B b S s P p, v = .agg #[.slice A sz.length a, .slice B ps.length b, .slice S sz.length s, .int .i64 ((prd sz : Nat) : Int), .slice P ps.length p] ∧
    IsNs w (.slice A sz.length a) sz ∧ IsNs w (.slice S sz.length s) (stp sz) ∧ IsFM w (.slice P ps.length p) ps
theorem IsForm.next {w w' : World} {v : Value} {sz : List Nat} {ps : List (List Rat)} (h : IsForm w v sz ps) (hb : Below w.heap.size w w') : IsForm w' v sz ps := by
  obtain ⟨A, a, B, b, S, s, P, p, hv, h1, h3, h4⟩ := h
  exact ⟨A, a, B, b, S, s, P, p, hv, h1.next hb, h3.next hb, h4.next hb⟩
theorem row5 {w : World} {g : Nat} {t : TypeId} {x0 x1 x2 x3 x4 : Value} (h : Row w g t [x0, x1, x2, x3, x4]) : w.cell? ⟨g, 0, none⟩ = some x0 ∧ w.cell? ⟨g, 1, none⟩ = some x1 ∧ w.cell? ⟨g, 2, none⟩ = some x2 ∧ w.cell? ⟨g, 3, none⟩ = some x3 ∧ w.cell? ⟨g, 4, none⟩ = some x4 := ⟨h.cell 0, h.cell 1, h.cell 2, h.cell 3, h.cell 4⟩
theorem fre5 {w : World} {g : Nat} {t : TypeId} {xs : List Value} (h : Row w g t xs) : w.frozen? ⟨g, 0, none⟩ = false ∧ w.frozen? ⟨g, 1, none⟩ = false ∧ w.frozen? ⟨g, 2, none⟩ = false ∧ w.frozen? ⟨g, 3, none⟩ = false ∧ w.frozen? ⟨g, 4, none⟩ = false := ⟨h.frozen 0, h.frozen 1, h.frozen 2, h.frozen 3, h.frozen 4⟩
end Go.Proofs.YtijjjbgnpfjpmaaGreatDoor
namespace Go.Proofs.YtijjjbgnpfjpmaaGreatDoor
open Go.RowKit
section
variable {P : Program} {w : World} {ops : Array Oper} {o : Oper} {a : Act} {K : Act → World → Prop} {Q : Exit → Act → World → Prop} {t e : TypeId} {z : Value} {bytes base : Nat} {E' : Prop}
theorem make_rule {k : IntKind} (P : Program) {t e : TypeId} {bytes : Nat} (E : ElT P t e (.int k 0) bytes) (L : Int) (n : Nat) (hL : L = (n : Int)) (hb : n * (bytes + 1) ≤ 140737488355328) :
    ∃ zs : Array Value, zs = (cel k (List.replicate n 0)).toArray ∧ ∀ w : World, (Instr.makeSlice t (.int .i64 L) (.int .i64 L)).run P w = .ok (.slice (some ⟨w.heap.size, 0, none⟩) n n) (w.alloc (.cells zs e)) := by
  obtain ⟨i, h2, h3, h4, hby⟩ := E.info
  rw [Nat.mul_add, Nat.mul_one] at hb
  have b2 : i.bytes * n ≤ 281474976710656 := by rw [hby, Nat.mul_comm]; omega
  have hb' : (i.bytes : Int) * (n : Int) ≤ 281474976710656 := by
    have h : ((i.bytes * n : Nat) : Int) ≤ 281474976710656 := og
    rwa [Int.natCast_mul] at h
  refine ⟨_, rfl, fun w => ?_⟩
  have hr := run_make (P := P) w t e i (.int k 0) E.und h2 h3 .i64 .i64 n n og (Int.le_refl _) hb' og
  simp only [Int.toNat_natCast] at hr
  have hm : (cel k (List.replicate n 0)).toArray = madeCells (Value.int k 0).cells (n * i.size) := by
    apply Array.ext'
    rw [h4, Nat.mul_one]
    show _ = (madeCells #[.int k 0] n).toList
    rw [toList_madeCells_one]
    simp [cel]
  rw [hL, hm]
  exact hr
theorem step_app (E : ElT P t e z bytes) (hgd : o.guard = none) (s x : Operand) (ho : o.op = .call { callee := .builtin .append, args := #[s, x], argTypes := #[t, t] })
    {v : Value} {xs : List Value} (hs : a.eval s = v) (hown : Own w base e v xs) {lo hi : Nat} {A : Option Addr} {m c : Nat} {news : List Value} (hx : a.eval x = .slice A m c) (hl : news.length = m) (hr : SV w lo hi A news)
    (h1 : ∀ u ∈ news, u.oneCell' = true) (hb : (xs.length + m) * (bytes + 1) ≤ 140737488355328) (hbase : base ≤ w.heap.size)
    (h : ∀ v' w', Own w' base e v' (xs ++ news) → Below base w w' → w.heap.size ≤ w'.heap.size → K (a.put o.dst v') w') :
    if Region.wanted o (yielded ops a.tmps) = true then Oper.wp P o a w K Q else E' := by
  obtain ⟨i, hi, hz, hsz, hby⟩ := E.info
  rw [Nat.mul_add, Nat.mul_one] at hb
  have hw : Region.wanted o (yielded ops a.tmps) = true := by simp [Region.wanted, hgd]
  rw [if_pos hw]
  refine wp_app w s x t ho base e i z 1 bytes E.und hi hz hsz hby E.zc og v xs.length xs hs hown lo _ A m c news hx og hr h1 (by unfold maxLen; omega) og hbase fun v' w' h2 h3 _ =>
    h v' w' (by unfold Own; rw [List.length_append, hl]; exact h2) ((Below.refl _ _).grown h3 hbase (fun k hk => (World.ownsRow.lt hown k hk).1)) h3.size
end
end Go.Proofs.YtijjjbgnpfjpmaaGreatDoor
namespace Go.Proofs.YtijjjbgnpfjpmaaGreatDoor
open Go Go.RowKit
set_option linter.unusedVariables false
section
variable {P : Program} {ops : Array Oper} {Q : Exit → Act → World → Prop} {md : Region.Mode} {tl : List Nat} {S C : World → Prop}
def Early (tl : List Nat) (listed : Array Bool) : Prop := ∀ t ∈ tl, listed.getD t false = false
theorem Early.less {listed : Array Bool} {i : Nat} (h : Early tl (listed.setIfInBounds i true)) : Early tl listed := fun t ht => by
  have h1 := h t ht
  cases e : listed.getD t false with
  | false => rfl
  | true => rw [getD_set_true e] at h1; cases h1
theorem Early.more {listed : Array Bool} {i : Nat} (h : Early tl listed) (hi : i ∉ tl) : Early tl (listed.setIfInBounds i true) := fun t ht => by
  rw [_root_.Go.getD_set_ne false (fun e => hi (by rw [e]; exact ht))]
  exact h t ht
def zbn (P : Program) (md : Region.Mode) (ops : Array Oper) (Q : Exit → Act → World → Prop) (tl : List Nat) (S C : World → Prop) : Nat → Array Bool → Act → World → Prop
  | 0, listed, a, w => Region.ready md ops listed = [] ∧ Q .normal a w
  | fuel + 1, listed, a, w =>
    (Region.ready md ops listed = [] → Q .normal a w) ∧
    ∀ i ∈ Region.ready md ops listed, wpOp P ops Q i (fun a' w' => (S w' ∧ (Early tl (listed.setIfInBounds i true) → C w')) ∧ zbn P md ops Q tl S C fuel (listed.setIfInBounds i true) a' w') a w
theorem wpAny_of_2 : ∀ (fuel : Nat) (listed : Array Bool) (a : Act) (w : World), zbn P md ops Q tl S C fuel listed a w → wpAny P md ops Q fuel listed a w
  | 0, _, _, _, h => h
  | fuel + 1, _, _, _, h => ⟨h.1, fun i hi => wpOp_mono (fun a' w' h' => wpAny_of_2 fuel _ a' w' h'.2) (h.2 i hi)⟩
theorem ready_not {i : Nat} {listed : Array Bool} {oj : Oper} (hr : i ∈ Region.ready md ops listed) (hall : ∀ e ∈ oj.after, Region.binds md e = true → listed.getD e.on false = true) : ∀ e ∈ oj.after, Region.binds md e = true → e.on ≠ i := fun e he hb heq => by
  have h1 := hall e he hb
  have h0 := (mem_ready.1 hr).1
  rw [heq] at h1
  rcases Nat.lt_or_ge i listed.size with h' | h'
  · simp [h'] at h0 h1; rw [h0] at h1; cases h1
  · simp [Array.getElem?_eq_none h'] at h1
theorem wpAny2_first {T : World → Prop} {i : Nat} {oi : Oper} {v : Value} (hi : ops[i]? = some oi) (hsel : ∀ (j : Nat) (o : Oper) cs b, ops[j]? = some o → o.op ≠ .select cs b)
    (hQ : ∀ c a w, Q (.panic c) (a.put oi.dst v) w → Q (.panic c) a w) (htl : i ∉ tl)
    (hT : ∀ (L : Array Bool) (w : World) (j : Nat) (oj : Oper), ops[j]? = some oj → (∀ e ∈ oj.after, Region.binds md e = true → e.on ≠ i) → (Early tl L ∨ ∀ w, S w → T w) → S w → (Early tl (L.setIfInBounds j true) → C w) → T w ∧ (Early tl (L.setIfInBounds j true) ∨ ∀ w, S w → T w)) :
    ∀ (fuel : Nat) (listed : Array Bool) (a : Act) (w : World),
      (∀ j oj, ops[j]? = some oj → j ≠ i → listed.getD j true = false → (∀ e ∈ oj.after, Region.binds md e = true → e.on ≠ i) → oi.apart ops oj = true) →
      i ∈ Region.ready md ops listed → YieldsIf P ops T oi v a → T w → S w → (Early tl listed → C w) → (Early tl listed ∨ ∀ w, S w → T w) →
      zbn P md ops Q tl S C fuel (listed.setIfInBounds i true) (a.put oi.dst v) w → zbn P md ops Q tl S C (fuel + 1) listed a w := by
  intro fuel
  induction fuel with
  | zero =>
    intro listed a w _ hr hy hTw hS hC hE H
    refine ⟨fun h => (by rw [h] at hr; cases hr), fun j hj => ?_⟩
    by_cases hji : j = i
    · subst hji; exact hy.wpOp hi hTw ⟨⟨hS, fun h => hC h.less⟩, H⟩
    · have := ready_mono hj hji
      rw [H.1] at this
      cases this
  | succ fuel ih =>
    intro listed a w hfree hr hy hTw hS hC hE H
    refine ⟨fun h => (by rw [h] at hr; cases hr), fun j hj => ?_⟩
    by_cases hji : j = i
    · subst hji; exact hy.wpOp hi hTw ⟨⟨hS, fun h => hC h.less⟩, H⟩
    · have h1 := H.2 j (ready_mono hj hji)
      obtain ⟨hjun, oj, hoj, hall⟩ := mem_ready.1 hj
      have hnot := ready_not hr hall
      have h2 := wpOp_putIf hoj (hfree j oj hoj hji hjun hnot) (fun cs b => hsel i oi cs b hi) (fun cs b => hsel j oj cs b hoj) hQ hy h1
      have hfree' : ∀ k ok, ops[k]? = some ok → k ≠ i → (listed.setIfInBounds j true).getD k true = false →
          (∀ e ∈ ok.after, Region.binds md e = true → e.on ≠ i) → oi.apart ops ok = true := fun k ok hk hki hun hno => by
        refine hfree k ok hk hki ?_ hno
        by_cases hjk : j = k
        · subst hjk; exact hjun
        · rw [_root_.Go.getD_set_ne true hjk] at hun; exact hun
      refine wpOp_mono (fun a' w' h3 => ?_) h2
      have hC' : Early tl (listed.setIfInBounds j true) → C w' := fun h => h3.2.1.2 (by rw [Array.setIfInBounds_comm _ _ (Ne.symm hji)]; exact h.more htl)
      have ht := hT listed w' j oj hoj hnot hE h3.2.1.1 hC'
      refine ⟨⟨h3.2.1.1, hC'⟩, ih (listed.setIfInBounds j true) a' w' hfree' (ready_mono hr (Ne.symm hji)) h3.1 ht.1 h3.2.1.1 hC' ht.2 ?_⟩
      rw [Array.setIfInBounds_comm _ _ hji]
      exact h3.2.2
def Region.waits (md : Region.Mode) (ops : Array Oper) (tl : List Nat) (i : Nat) : Bool := tl.all fun t => ((ops[t]?).map fun o => o.after.any fun e => Region.binds md e && e.on == i).getD false
def Region.none (tl : List Nat) (listed : Array Bool) : Bool := tl.all fun t => !listed.getD t false
theorem none_early {listed : Array Bool} (h : Region.none tl listed = true) : Early tl listed := fun t ht => by
  have := List.all_eq_true.1 h t ht
  simpa using this
theorem takeA {i : Nat} {oi : Oper} {v : Value} {fuel : Nat} {listed : Array Bool} {a : Act} {w : World} (dst : Option Tmp) (hi : ops[i]? = some oi) (hd : oi.dst = dst) (hs : Region.noSelect ops = true) (hf : Region.free md ops listed i = true)
    (hr : (Region.ready md ops listed).contains i = true) (hw : Region.wanted oi (yielded ops a.tmps) = true) (hQ : ∀ c a w, Q (.panic c) (a.put dst v) w → Q (.panic c) a w)
    (htl : tl.contains i = false) (hwt : Region.waits md ops tl i = true) (hn : Region.none tl listed = true)
    (hy : ∀ w, S w → C w → (execOp a.eval oi).run P w = .ok (.value v) w) (hS : S w) (hC : C w)
    (h : zbn P md ops Q tl S C fuel (listed.setIfInBounds i true) (a.put dst v) w) : zbn P md ops Q tl S C (fuel + 1) listed a w := by
  subst hd
  have hti : i ∉ tl := by simpa using htl
  refine wpAny2_first (T := fun w => S w ∧ C w) hi (Region.noSelect_spec hs) hQ hti (fun L w j oj hoj hno hE hS hC => ?_) fuel listed a w (Region.free_spec hi hf) (by simpa using hr) (.inl ⟨hw, fun w h => hy w h.1 h.2⟩) ⟨hS, hC⟩ hS (fun _ => hC) (.inl (none_early hn)) h
  have hj : j ∉ tl := fun hj => by
    have h1 := List.all_eq_true.1 hwt j hj
    rw [hoj] at h1
    simp only [Option.map_some, Option.getD_some, Array.any_eq_true, Bool.and_eq_true, beq_iff_eq] at h1
    obtain ⟨k, hk, hb, he⟩ := h1
    exact hno _ (Array.getElem_mem hk) hb he
  rcases hE with hE | hE
  · have := hE.more hj
    exact ⟨⟨hS, hC this⟩, .inl this⟩
  · exact ⟨hE w hS, .inr hE⟩
theorem takeB {i : Nat} {oi : Oper} {v : Value} {fuel : Nat} {listed : Array Bool} {a : Act} {w : World} (dst : Option Tmp) (hi : ops[i]? = some oi) (hd : oi.dst = dst) (hs : Region.noSelect ops = true) (hf : Region.free md ops listed i = true)
    (hr : (Region.ready md ops listed).contains i = true) (hw : Region.wanted oi (yielded ops a.tmps) = true) (hQ : ∀ c a w, Q (.panic c) (a.put dst v) w → Q (.panic c) a w)
    (htl : tl.contains i = false) (hy : ∀ w, S w → (execOp a.eval oi).run P w = .ok (.value v) w) (hS : S w) (hC : Region.none tl listed = true → C w)
    (h : zbn P md ops Q tl S C fuel (listed.setIfInBounds i true) (a.put dst v) w) : zbn P md ops Q tl S C (fuel + 1) listed a w := by
  subst hd
  have hti : i ∉ tl := by simpa using htl
  refine wpAny2_first (T := S) hi (Region.noSelect_spec hs) hQ hti (fun L w j oj hoj hno hE hS hC => ⟨hS, .inr fun _ h => h⟩) fuel listed a w (Region.free_spec hi hf) (by simpa using hr) (.inl ⟨hw, hy⟩) hS hS (fun h => hC ?_) (.inr fun _ h => h) h
  exact List.all_eq_true.2 fun t ht => by rw [h t ht]; rfl
theorem oneA {i : Nat} {oi : Oper} {fuel : Nat} {listed : Array Bool} {a : Act} {w : World} (hr : Region.ready md ops listed = [i]) (hi : ops[i]? = some oi) (hw : Region.wanted oi (yielded ops a.tmps) = true)
    (h : ∀ K : Act → World → Prop, Shut (∀ a w, S w → C w → (S w → C w → zbn P md ops Q tl S C fuel (listed.setIfInBounds i true) a w) → K a w) → Oper.wp P oi a w K Q) : zbn P md ops Q tl S C (fuel + 1) listed a w := by
  refine ⟨fun h0 => (by rw [hr] at h0; cases h0), fun j hj => ?_⟩
  rw [hr, List.mem_singleton] at hj
  subst hj
  refine wpOp_step hi fun K hK => ?_
  rw [if_pos hw]
  exact h K fun a w hS hC hW => hK a w ⟨⟨hS, fun _ => hC⟩, hW hS hC⟩
theorem oneT {i : Nat} {oi : Oper} {fuel : Nat} {listed : Array Bool} {a : Act} {w : World} (hr : Region.ready md ops listed = [i]) (hi : ops[i]? = some oi) (hw : Region.wanted oi (yielded ops a.tmps) = true) (htl : tl.contains i = true) (hlt : listed.size = ops.size)
    (h : ∀ K : Act → World → Prop, Shut (∀ a w, S w → (S w → zbn P md ops Q tl S C fuel (listed.setIfInBounds i true) a w) → K a w) → Oper.wp P oi a w K Q) : zbn P md ops Q tl S C (fuel + 1) listed a w := by
  refine ⟨fun h0 => (by rw [hr] at h0; cases h0), fun j hj => ?_⟩
  rw [hr, List.mem_singleton] at hj
  subst hj
  refine wpOp_step hi fun K hK => ?_
  rw [if_pos hw]
  refine h K fun a w hS hW => hK a w ⟨⟨hS, fun he => ?_⟩, hW hS⟩
  have h1 := he j (by simpa using htl)
  have hj : j < listed.size := by rw [hlt]; exact (Array.getElem?_eq_some_iff.1 hi).1
  simp [hj] at h1
theorem zfs {listed : Array Bool} {a : Act} {w : World} (hr : Region.ready md ops listed = []) (h : Q .normal a w) : ∀ fuel, zbn P md ops Q tl S C fuel listed a w
  | 0 => ⟨hr, h⟩
  | _ + 1 => ⟨fun _ => h, by rw [hr]; simp⟩
theorem zck (tl : List Nat) (S C : World → Prop) {id : Nat} {a : Act} {w : World} (hm : P.follows .mixedOrders = true) (hS : S w.drew) (hC : C w.drew)
    (h : S w.drew → C w.drew → zbn P .any ops Q tl S C ops.size (Array.replicate ops.size false) a w.drew) : (Code.region id ops true).wp P Q a w :=
  wp_region_any hm (wpAny_of_2 _ _ _ _ (h hS hC))
section
variable {oi : Oper} {v : Value} {fuel : Nat} {listed : Array Bool} {a : Act} {w : World}
theorem pA (i : Nat) (s : Tmp) {q : Prop} (k : q) (hi : ops[i]? = some oi := by rfl) (hd : oi.dst = some s := by rfl) (hs : Region.noSelect ops = true := by kernel_rfl) (hf : Region.free md ops listed i = true := by kernel_rfl)
    (hr : (Region.ready md ops listed).contains i = true := by kernel_rfl) (hw : Region.wanted oi (yielded ops a.tmps) = true := by rfl) (hQ : ∀ c a w, Q (.panic c) (a.put (some s) v) w → Q (.panic c) a w := by exact fun _ _ _ h => h)
    (htl : tl.contains i = false := by kernel_rfl) (hwt : Region.waits md ops tl i = true := by kernel_rfl) (hn : Region.none tl listed = true := by kernel_rfl)
    (hy : ∀ w, S w → C w → (execOp a.eval oi).run P w = .ok (.value v) w := by (intro w hSw hCw; (try dsimp only at hSw hCw); go_simp; (try (with_reducible rfl)))) (hS : S w := by assumption) (hC : C w := by assumption)
    (h : q → zbn P md ops Q tl S C fuel (listed.setIfInBounds i true) (a.put (some s) v) w := by (intro hk; simp only [Act.put, _root_.List.setIfInBounds_toArray, _root_.List.set_cons_zero, _root_.List.set_cons_succ]; exact hk)) : zbn P md ops Q tl S C (fuel + 1) listed a w := takeA (some s) hi hd hs hf hr hw hQ htl hwt hn hy hS hC (h k)
theorem pB (i : Nat) (s : Tmp) {q : Prop} (k : q) (hi : ops[i]? = some oi := by rfl) (hd : oi.dst = some s := by rfl) (hs : Region.noSelect ops = true := by kernel_rfl) (hf : Region.free md ops listed i = true := by kernel_rfl)
    (hr : (Region.ready md ops listed).contains i = true := by kernel_rfl) (hw : Region.wanted oi (yielded ops a.tmps) = true := by rfl) (hQ : ∀ c a w, Q (.panic c) (a.put (some s) v) w → Q (.panic c) a w := by exact fun _ _ _ h => h)
    (htl : tl.contains i = false := by kernel_rfl)
    (hy : ∀ w, S w → (execOp a.eval oi).run P w = .ok (.value v) w := by (intro w hSw; (try dsimp only at hSw); go_simp; (try (with_reducible rfl)))) (hS : S w := by assumption) (hC : Region.none tl listed = true → C w := by first | exact fun _ => by assumption | exact fun h => absurd h (by decide))
    (h : q → zbn P md ops Q tl S C fuel (listed.setIfInBounds i true) (a.put (some s) v) w := by (intro hk; simp only [Act.put, _root_.List.setIfInBounds_toArray, _root_.List.set_cons_zero, _root_.List.set_cons_succ]; exact hk)) : zbn P md ops Q tl S C (fuel + 1) listed a w := takeB (some s) hi hd hs hf hr hw hQ htl hy hS hC (h k)
end
end
end Go.Proofs.YtijjjbgnpfjpmaaGreatDoor
