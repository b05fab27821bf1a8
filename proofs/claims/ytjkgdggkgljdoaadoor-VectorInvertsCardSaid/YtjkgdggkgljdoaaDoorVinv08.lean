/-
  Contracts of package long's functions on rational numbers: plusWords, Plus, Minus, Times, Order.
-/
import Derived.Test.YtjkgdggkgljdoaaDoorVinv06
namespace Go.Proofs.YtjkgdggkgljdoaaDoor
open Go.RowKit
set_option linter.unusedVariables false
theorem words_i (w : World) (neg : Bool) (n d : Int) (q : Rat) (hB : Bru w) (hn0 : 1 ≤ n) (hd0 : 1 ≤ d) (hn : n ≤ 18446744073709551615) (hd : d ≤ 18446744073709551615) (hq : q = mkRat (sg neg n.toNat) d.toNat) :
    Calls Tryd.prog 124 #[.bool neg, .int .u64 n, .int .u64 d] w (RetQ w q) := by
  obtain ⟨m, rfl⟩ := Int.eq_ofNat_of_zero_le (by omega : 0 ≤ n)
  obtain ⟨k, rfl⟩ := Int.eq_ofNat_of_zero_le (by omega : 0 ≤ d)
  rw [hq]
  exact words_q w neg m k hB (by omega) (by omega) (by omega) (by omega)
theorem prod_limb {x y : Int} (hx : 1 ≤ x) (hx9 : x ≤ 999999999) (hy : 1 ≤ y) (hy9 : y ≤ 999999999) : 1 ≤ x * y ∧ x * y ≤ 999999998000000001 := by
  refine ⟨?_, (zce (by omega) hx9 (by omega) hy9).2⟩
  have := Int.mul_le_mul hx hy (by omega) (by omega)
  omega
set_option maxRecDepth 100000 in
set_option maxHeartbeats 1000000 in
theorem plusWords_q {w : World} {va vb : Value} {qa qb qc : Rat} (ha : IsQ w (Old w) va qa) (hb : IsQ w (Old w) vb qb) (hB : Bru w) (h1 : OneL qa qb) (hc : qc = qa + qb) : Calls Tryd.prog 117 #[va, vb] w (RetQ w qc) := by
  have HQa := Lib.hid ha
  obtain ⟨nega, Aa, cAa, Ba, cBa, rfl, Hnega, Hna, Hda⟩ := zam ha
  have HQb := Lib.hid hb
  obtain ⟨negb, Ab, cAb, Bb, cBb, rfl, Hnegb, Hnb, Hdb⟩ := zam hb
  obtain ⟨l1, l2, l3, l4⟩ := h1
  obtain ⟨b1, o1, rfl, u1, g1, s1⟩ := zfd Hna.out l1
  obtain ⟨b2, o2, rfl, u2, g2, s2⟩ := zfd Hda.out l2
  obtain ⟨b3, o3, rfl, u3, g3, s3⟩ := zfd Hnb.out l3
  obtain ⟨b4, o4, rfl, u4, g4, s4⟩ := zfd Hdb.out l4
  have hover := @plus_over qa qb nega negb
  have Hov : Hid (∀ (neg : Bool) (n : Nat), sg neg n = sg nega (qa.num.natAbs * qb.den) + sg negb (qb.num.natAbs * qa.den) → mkRat (sg neg n) (qa.den * qb.den) = qc) := fun neg n h => by rw [hc]; exact plus_over Hnega.out Hnegb.out h
  have Hc := Lib.hid hc
  rw [l1] at HQa
  rw [l2] at HQa
  rw [l3] at HQb
  rw [l4] at HQb
  rw [l1, l2, l3, l4]
  clear ha hb hover hc Hna Hda Hnb Hdb Hnega Hnegb l1 l2 l3 l4
  obtain ⟨w0, hw0, hb0, ra, rb, rZ, Hz⟩ := boxes3 w #[.bool nega, .slice (some ⟨b1, o1, none⟩) 1 cAa, .slice (some ⟨b2, o2, none⟩) 1 cBa] #[.bool negb, .slice (some ⟨b3, o3, none⟩) 1 cAb, .slice (some ⟨b4, o4, none⟩) 1 cBb] #[.bool false, .slice none 0 0, .slice none 0 0] 50 50 50
  have v1 := zac hb0 u1
  have v2 := zac hb0 u2
  have v3 := zac hb0 u3
  have v4 := zac hb0 u4
  clear u1 u2 u3 u4
  have Ra_0 := Lib.hid (ra)
  have Rb_0 := Lib.hid (rb)
  have Z_0 := Lib.hid (rZ)
  have bw_0 := Lib.hid (hb0)
  have sz_0 : Hid (w.heap.size + 3 ≤ w0.heap.size) := Lib.hid (Nat.le_of_eq Hz.out.symm)
  have B_0 := Lib.hid (Bru.next hB hb0)
  clear ra rb rZ hb0 hB
  obtain ⟨cRa0_1, cRa1_1, cRa2_1⟩ := zad Ra_0.out
  obtain ⟨cRb0_2, cRb1_2, cRb2_2⟩ := zad Rb_0.out
  obtain ⟨cZ0_3, cZ1_3, cZ2_3⟩ := zad Z_0.out
  obtain ⟨fZ0_3, fZ1_3, fZ2_3⟩ := zaq Z_0.out
  obtain ⟨x, hx⟩ : ∃ x : Int, x = (qa.num.natAbs : Int) * (qb.den : Int) := ⟨_, rfl⟩
  obtain ⟨y, hy⟩ : ∃ y : Int, y = (qb.num.natAbs : Int) * (qa.den : Int) := ⟨_, rfl⟩
  obtain ⟨d, hd⟩ : ∃ d : Int, d = (qa.den : Int) * (qb.den : Int) := ⟨_, rfl⟩
  obtain ⟨x0, x9⟩ := prod_limb g1 s1 g4 s4
  obtain ⟨y0, y9⟩ := prod_limb g3 s3 g2 s2
  obtain ⟨d0, d9⟩ := prod_limb g2 s2 g4 s4
  rw [← hx] at x0 x9
  rw [← hy] at y0 y9
  rw [← hd] at d0 d9
  have Hx : Hid (x.toNat = qa.num.natAbs * qb.den) := by rw [hx]; exact Int.toNat_natCast _
  have Hy : Hid (y.toNat = qb.num.natAbs * qa.den) := by rw [hy]; exact Int.toNat_natCast _
  have Hd : Hid (d.toNat = qa.den * qb.den) := by rw [hd]; exact Int.toNat_natCast _
  have e1 : IntKind.u64.wrap (qa.num.natAbs : Int) = (qa.num.natAbs : Int) := IntWalk.u64_in _ (by omega)
  have e2 : IntKind.u64.wrap (qa.den : Int) = (qa.den : Int) := IntWalk.u64_in _ (by omega)
  have e3 : IntKind.u64.wrap (qb.num.natAbs : Int) = (qb.num.natAbs : Int) := IntWalk.u64_in _ (by omega)
  have e4 : IntKind.u64.wrap (qb.den : Int) = (qb.den : Int) := IntWalk.u64_in _ (by omega)
  have k1 : IntKind.u64.wrap ((qa.num.natAbs : Int) * (qb.den : Int)) = x := by rw [hx]; exact IntWalk.u64_in _ (by rw [← hx]; omega)
  have k2 : IntKind.u64.wrap ((qb.num.natAbs : Int) * (qa.den : Int)) = y := by rw [hy]; exact IntWalk.u64_in _ (by rw [← hy]; omega)
  have k3 : IntKind.u64.wrap ((qa.den : Int) * (qb.den : Int)) = d := by rw [hd]; exact IntWalk.u64_in _ (by rw [← hd]; omega)
  clear hx hy hd
  go_enter Tryd.func117, Tryd.ntmps117
  go_wp2_with fail
  clear hw0
  rcases (by cases nega <;> cases negb <;> simp : (nega == negb) = true ∨ (nega == negb) = false) with hs | hs
  · have Hs : Hid (negb = nega) := by unfold Hid; cases nega <;> cases negb <;> simp at hs ⊢
    have Hq : Hid (qc = mkRat (sg nega (x + y).toNat) d.toNat) := by rw [Hid, Hd.out]; refine (Hov.out _ _ ?_).symm; rw [Hs.out, ← sg_add, ← Hx.out, ← Hy.out]; congr 1; omega
    go_quiet (fail)
    go_wp2_with fail
    go_quiet (fail)
    go_wp2_with fail
    refine (words_i _ nega (x + y) d qc (Bru.drewN B_0.out _) (by omega) (by omega) (by omega) (by omega) Hq.out).mono ?_
    rintro e w1 ⟨⟨v1, rfl, hv⟩, hb⟩
    have newV := Lib.hid (IsQ.stb.le hv sz_0.out)
    have Ra_1 := Lib.hid (Row.next Ra_0.out (zbp hb))
    have Rb_1 := Lib.hid (Row.next Rb_0.out (zbp hb))
    have Z_1 := Lib.hid (Row.next Z_0.out (zbp hb))
    have bw_1 := Lib.hid (zaa bw_0.out (zbp hb))
    have sz_1 := Lib.hid (zah sz_0.out (zbp hb))
    have B_1 := Lib.hid (Bru.next B_0.out (zbp hb))
    clear Ra_0 Rb_0 Z_0 bw_0 sz_0 B_0
    have V_0 := newV
    clear newV
    obtain ⟨s1, P1, k1, O1, l1, rfl, _, _, _⟩ := zam hv
    clear cRa0_1 cRa1_1 cRa2_1 cRb0_2 cRb1_2 cRb2_2 cZ0_3 cZ1_3 cZ2_3 fZ0_3 fZ1_3 fZ2_3
    obtain ⟨cRa0_4, cRa1_4, cRa2_4⟩ := zad Ra_1.out
    obtain ⟨cRb0_5, cRb1_5, cRb2_5⟩ := zad Rb_1.out
    obtain ⟨cZ0_6, cZ1_6, cZ2_6⟩ := zad Z_1.out
    obtain ⟨fZ0_6, fZ1_6, fZ2_6⟩ := zaq Z_1.out
    go_wp2_with fail
    refine zbc Tryd.results117 rfl rfl (Row.put3 Z_1.out _ _ _) (zfm V_0.out bw_1.out (by omega) (by omega))
  · have Hs : Hid (negb = !nega) := by unfold Hid; cases nega <;> cases negb <;> simp at hs ⊢
    rcases Int.lt_trichotomy x y with hxy | hxy | hxy
    · have Hq : Hid (qc = mkRat (sg negb (y - x).toNat) d.toNat) := by rw [Hid, Hd.out]; refine (Hov.out _ _ ?_).symm; rw [Hs.out, ← Hx.out, ← Hy.out, show (y - x).toNat = y.toNat - x.toNat from by omega, sg_sub' (by omega)]; simp
      have hxy1 : (x == y) = false := beq_eq_false_iff_ne.2 (by omega)
      go_quiet (fail)
      go_wp2_with fail
      go_quiet (fail)
      go_wp2_with fail
      refine (words_i _ negb (y - x) d qc (Bru.drewN B_0.out _) (by omega) (by omega) (by omega) (by omega) Hq.out).mono ?_
      rintro e w1 ⟨⟨v1, rfl, hv⟩, hb⟩
      have newV := Lib.hid (IsQ.stb.le hv sz_0.out)
      have Ra_1 := Lib.hid (Row.next Ra_0.out (zbp hb))
      have Rb_1 := Lib.hid (Row.next Rb_0.out (zbp hb))
      have Z_1 := Lib.hid (Row.next Z_0.out (zbp hb))
      have bw_1 := Lib.hid (zaa bw_0.out (zbp hb))
      have sz_1 := Lib.hid (zah sz_0.out (zbp hb))
      have B_1 := Lib.hid (Bru.next B_0.out (zbp hb))
      clear Ra_0 Rb_0 Z_0 bw_0 sz_0 B_0
      have V_0 := newV
      clear newV
      obtain ⟨s1, P1, k1, O1, l1, rfl, _, _, _⟩ := zam hv
      clear cRa0_1 cRa1_1 cRa2_1 cRb0_2 cRb1_2 cRb2_2 cZ0_3 cZ1_3 cZ2_3 fZ0_3 fZ1_3 fZ2_3
      obtain ⟨cRa0_4, cRa1_4, cRa2_4⟩ := zad Ra_1.out
      obtain ⟨cRb0_5, cRb1_5, cRb2_5⟩ := zad Rb_1.out
      obtain ⟨cZ0_6, cZ1_6, cZ2_6⟩ := zad Z_1.out
      obtain ⟨fZ0_6, fZ1_6, fZ2_6⟩ := zaq Z_1.out
      go_wp2_with fail
      refine zbc Tryd.results117 rfl rfl (Row.put3 Z_1.out _ _ _) (zfm V_0.out bw_1.out (by omega) (by omega))
    · have Hq : Hid (qc = 0) := by rw [Hid, ← Hov.out true 0 (by rw [Hs.out, ← Hx.out, ← Hy.out, hxy, sg_not]; simp [sg]; omega)]; simp [sg]
      have hxy1 : (x == y) = true := beq_iff_eq.2 hxy
      have Hxy := Lib.hid hxy
      clear hxy
      go_quiet (fail)
      go_wp2_with fail
      go_quiet (fail)
      go_wp2_with fail
      refine (zero_q _).mono ?_
      rintro e w1 ⟨⟨v1, rfl, hv⟩, hb⟩
      have newV := Lib.hid (IsQ.stb.le hv sz_0.out)
      have Ra_1 := Lib.hid (Row.next Ra_0.out (zbp hb))
      have Rb_1 := Lib.hid (Row.next Rb_0.out (zbp hb))
      have Z_1 := Lib.hid (Row.next Z_0.out (zbp hb))
      have bw_1 := Lib.hid (zaa bw_0.out (zbp hb))
      have sz_1 := Lib.hid (zah sz_0.out (zbp hb))
      have B_1 := Lib.hid (Bru.next B_0.out (zbp hb))
      clear Ra_0 Rb_0 Z_0 bw_0 sz_0 B_0
      have V_0 := newV
      clear newV
      obtain ⟨s1, P1, k1, O1, l1, rfl, _, _, _⟩ := zam hv
      clear cRa0_1 cRa1_1 cRa2_1 cRb0_2 cRb1_2 cRb2_2 cZ0_3 cZ1_3 cZ2_3 fZ0_3 fZ1_3 fZ2_3
      obtain ⟨cRa0_4, cRa1_4, cRa2_4⟩ := zad Ra_1.out
      obtain ⟨cRb0_5, cRb1_5, cRb2_5⟩ := zad Rb_1.out
      obtain ⟨cZ0_6, cZ1_6, cZ2_6⟩ := zad Z_1.out
      obtain ⟨fZ0_6, fZ1_6, fZ2_6⟩ := zaq Z_1.out
      go_wp2_with fail
      rw [Hq.out]
      refine zbc Tryd.results117 rfl rfl (Row.put3 Z_1.out _ _ _) (zfm V_0.out bw_1.out (by omega) (by omega))
    · have Hq : Hid (qc = mkRat (sg nega (x - y).toNat) d.toNat) := by rw [Hid, Hd.out]; refine (Hov.out _ _ ?_).symm; rw [Hs.out, ← Hx.out, ← Hy.out, show (x - y).toNat = x.toNat - y.toNat from by omega, sg_sub (by omega)]
      have hxy1 : (x == y) = false := beq_eq_false_iff_ne.2 (by omega)
      go_quiet (fail)
      go_wp2_with fail
      go_quiet (fail)
      go_wp2_with fail
      refine (words_i _ nega (x - y) d qc (Bru.drewN B_0.out _) (by omega) (by omega) (by omega) (by omega) Hq.out).mono ?_
      rintro e w1 ⟨⟨v1, rfl, hv⟩, hb⟩
      have newV := Lib.hid (IsQ.stb.le hv sz_0.out)
      have Ra_1 := Lib.hid (Row.next Ra_0.out (zbp hb))
      have Rb_1 := Lib.hid (Row.next Rb_0.out (zbp hb))
      have Z_1 := Lib.hid (Row.next Z_0.out (zbp hb))
      have bw_1 := Lib.hid (zaa bw_0.out (zbp hb))
      have sz_1 := Lib.hid (zah sz_0.out (zbp hb))
      have B_1 := Lib.hid (Bru.next B_0.out (zbp hb))
      clear Ra_0 Rb_0 Z_0 bw_0 sz_0 B_0
      have V_0 := newV
      clear newV
      obtain ⟨s1, P1, k1, O1, l1, rfl, _, _, _⟩ := zam hv
      clear cRa0_1 cRa1_1 cRa2_1 cRb0_2 cRb1_2 cRb2_2 cZ0_3 cZ1_3 cZ2_3 fZ0_3 fZ1_3 fZ2_3
      obtain ⟨cRa0_4, cRa1_4, cRa2_4⟩ := zad Ra_1.out
      obtain ⟨cRb0_5, cRb1_5, cRb2_5⟩ := zad Rb_1.out
      obtain ⟨cZ0_6, cZ1_6, cZ2_6⟩ := zad Z_1.out
      obtain ⟨fZ0_6, fZ1_6, fZ2_6⟩ := zaq Z_1.out
      go_wp2_with fail
      refine zbc Tryd.results117 rfl rfl (Row.put3 Z_1.out _ _ _) (zfm V_0.out bw_1.out (by omega) (by omega))
set_option maxHeartbeats 400000 in
theorem plus_a0 {w : World} {va vb : Value} {qa qb qc : Rat} (ha : IsQ w (Old w) va qa) (hb : IsQ w (Old w) vb qb) (hsb : Sz qb 100000) (h0 : qa = 0) (hc : qc = qa + qb) : Calls Tryd.prog 89 #[va, vb] w (RetQ w qc) := by
  have HQa := Lib.hid ha
  obtain ⟨nega, Aa, cAa, Ba, cBa, rfl, Hnega, Hna, Hda⟩ := zam ha
  have HQb := Lib.hid hb
  obtain ⟨negb, Ab, cAb, Bb, cBb, rfl, Hnegb, Hnb, Hdb⟩ := zam hb
  have e0 : (((lim qa.num.natAbs).length : Int) == 0) = true := len_zero (by rw [h0]; rfl)
  have Hq : Hid (qc = qb) := by rw [Hid, hc, h0, Rat.zero_add]
  have Hs := Lib.hid hsb
  clear ha hb h0 hc hsb
  obtain ⟨w0, hw0, hb0, ra, rb, rZ, Hz⟩ := boxes3 w #[.bool nega, .slice Aa (lim qa.num.natAbs).length cAa, .slice Ba (lim qa.den).length cBa] #[.bool negb, .slice Ab (lim qb.num.natAbs).length cAb, .slice Bb (lim qb.den).length cBb] #[.bool false, .slice none 0 0, .slice none 0 0] 50 50 50
  have Qa_0 := Lib.hid (IsQ.stb.next HQa.out hb0)
  have Ra_0 := Lib.hid (ra)
  have Qb_0 := Lib.hid (IsQ.stb.next HQb.out hb0)
  have Rb_0 := Lib.hid (rb)
  have Z_0 := Lib.hid (rZ)
  have bw_0 := Lib.hid (hb0)
  have sz_0 : Hid (w.heap.size + 3 ≤ w0.heap.size) := Lib.hid (Nat.le_of_eq Hz.out.symm)
  clear ra rb rZ hb0
  obtain ⟨cRa0_1, cRa1_1, cRa2_1⟩ := zad Ra_0.out
  obtain ⟨cRb0_2, cRb1_2, cRb2_2⟩ := zad Rb_0.out
  obtain ⟨cZ0_3, cZ1_3, cZ2_3⟩ := zad Z_0.out
  obtain ⟨fZ0_3, fZ1_3, fZ2_3⟩ := zaq Z_0.out
  go_enter Tryd.func89, Tryd.ntmps89
  go_wp2_with fail
  clear hw0
  refine (clone_q Qb_0.out Hs.out).mono ?_
  rintro e w1 ⟨⟨v1, rfl, hv⟩, hb⟩
  have newV := Lib.hid (IsQ.stb.le hv sz_0.out)
  have Qa_1 := Lib.hid (IsQ.stb.next Qa_0.out (hb))
  have Ra_1 := Lib.hid (Row.next Ra_0.out (hb))
  have Qb_1 := Lib.hid (IsQ.stb.next Qb_0.out (hb))
  have Rb_1 := Lib.hid (Row.next Rb_0.out (hb))
  have Z_1 := Lib.hid (Row.next Z_0.out (hb))
  have bw_1 := Lib.hid (zaa bw_0.out (hb))
  have sz_1 := Lib.hid (zah sz_0.out (hb))
  clear Qa_0 Ra_0 Qb_0 Rb_0 Z_0 bw_0 sz_0
  have V_0 := newV
  clear newV
  obtain ⟨s1, P1, k1, O1, l1, rfl, _, _, _⟩ := zam hv
  clear cRa0_1 cRa1_1 cRa2_1 cRb0_2 cRb1_2 cRb2_2 cZ0_3 cZ1_3 cZ2_3 fZ0_3 fZ1_3 fZ2_3
  obtain ⟨cRa0_4, cRa1_4, cRa2_4⟩ := zad Ra_1.out
  obtain ⟨cRb0_5, cRb1_5, cRb2_5⟩ := zad Rb_1.out
  obtain ⟨cZ0_6, cZ1_6, cZ2_6⟩ := zad Z_1.out
  obtain ⟨fZ0_6, fZ1_6, fZ2_6⟩ := zaq Z_1.out
  go_wp2_with fail
  rw [Hq.out]
  refine zbc Tryd.results89 rfl rfl (Row.put3 Z_1.out _ _ _) (zfm V_0.out bw_1.out (by omega) (by omega))
set_option maxHeartbeats 400000 in
theorem plus_b0 {w : World} {va vb : Value} {qa qb qc : Rat} (ha : IsQ w (Old w) va qa) (hb : IsQ w (Old w) vb qb) (hsa : Sz qa 100000) (ha0 : qa ≠ 0) (h0 : qb = 0) (hc : qc = qa + qb) : Calls Tryd.prog 89 #[va, vb] w (RetQ w qc) := by
  have HQa := Lib.hid ha
  obtain ⟨nega, Aa, cAa, Ba, cBa, rfl, Hnega, Hna, Hda⟩ := zam ha
  have HQb := Lib.hid hb
  obtain ⟨negb, Ab, cAb, Bb, cBb, rfl, Hnegb, Hnb, Hdb⟩ := zam hb
  have e0 : (((lim qa.num.natAbs).length : Int) == 0) = false := zeb (zfc ha0)
  have e1 : (((lim qb.num.natAbs).length : Int) == 0) = true := len_zero (by rw [h0]; rfl)
  have Hq : Hid (qc = qa) := by rw [Hid, hc, h0, Rat.add_zero]
  have Hs := Lib.hid hsa
  clear ha hb h0 ha0 hc hsa
  obtain ⟨w0, hw0, hb0, ra, rb, rZ, Hz⟩ := boxes3 w #[.bool nega, .slice Aa (lim qa.num.natAbs).length cAa, .slice Ba (lim qa.den).length cBa] #[.bool negb, .slice Ab (lim qb.num.natAbs).length cAb, .slice Bb (lim qb.den).length cBb] #[.bool false, .slice none 0 0, .slice none 0 0] 50 50 50
  have Qa_0 := Lib.hid (IsQ.stb.next HQa.out hb0)
  have Ra_0 := Lib.hid (ra)
  have Qb_0 := Lib.hid (IsQ.stb.next HQb.out hb0)
  have Rb_0 := Lib.hid (rb)
  have Z_0 := Lib.hid (rZ)
  have bw_0 := Lib.hid (hb0)
  have sz_0 : Hid (w.heap.size + 3 ≤ w0.heap.size) := Lib.hid (Nat.le_of_eq Hz.out.symm)
  clear ra rb rZ hb0
  obtain ⟨cRa0_1, cRa1_1, cRa2_1⟩ := zad Ra_0.out
  obtain ⟨cRb0_2, cRb1_2, cRb2_2⟩ := zad Rb_0.out
  obtain ⟨cZ0_3, cZ1_3, cZ2_3⟩ := zad Z_0.out
  obtain ⟨fZ0_3, fZ1_3, fZ2_3⟩ := zaq Z_0.out
  go_enter Tryd.func89, Tryd.ntmps89
  go_wp2_with fail
  clear hw0
  refine (clone_q Qa_0.out Hs.out).mono ?_
  rintro e w1 ⟨⟨v1, rfl, hv⟩, hb⟩
  have newV := Lib.hid (IsQ.stb.le hv sz_0.out)
  have Qa_1 := Lib.hid (IsQ.stb.next Qa_0.out (hb))
  have Ra_1 := Lib.hid (Row.next Ra_0.out (hb))
  have Qb_1 := Lib.hid (IsQ.stb.next Qb_0.out (hb))
  have Rb_1 := Lib.hid (Row.next Rb_0.out (hb))
  have Z_1 := Lib.hid (Row.next Z_0.out (hb))
  have bw_1 := Lib.hid (zaa bw_0.out (hb))
  have sz_1 := Lib.hid (zah sz_0.out (hb))
  clear Qa_0 Ra_0 Qb_0 Rb_0 Z_0 bw_0 sz_0
  have V_0 := newV
  clear newV
  obtain ⟨s1, P1, k1, O1, l1, rfl, _, _, _⟩ := zam hv
  clear cRa0_1 cRa1_1 cRa2_1 cRb0_2 cRb1_2 cRb2_2 cZ0_3 cZ1_3 cZ2_3 fZ0_3 fZ1_3 fZ2_3
  obtain ⟨cRa0_4, cRa1_4, cRa2_4⟩ := zad Ra_1.out
  obtain ⟨cRb0_5, cRb1_5, cRb2_5⟩ := zad Rb_1.out
  obtain ⟨cZ0_6, cZ1_6, cZ2_6⟩ := zad Z_1.out
  obtain ⟨fZ0_6, fZ1_6, fZ2_6⟩ := zaq Z_1.out
  go_wp2_with fail
  rw [Hq.out]
  refine zbc Tryd.results89 rfl rfl (Row.put3 Z_1.out _ _ _) (zfm V_0.out bw_1.out (by omega) (by omega))
set_option maxHeartbeats 400000 in
theorem plus_w {w : World} {va vb : Value} {qa qb qc : Rat} (ha : IsQ w (Old w) va qa) (hb : IsQ w (Old w) vb qb) (hB : Bru w) (ha0 : qa ≠ 0) (hb0 : qb ≠ 0) (h1 : OneL qa qb) (hc : qc = qa + qb) : Calls Tryd.prog 89 #[va, vb] w (RetQ w qc) := by
  have HQa := Lib.hid ha
  obtain ⟨nega, Aa, cAa, Ba, cBa, rfl, Hnega, Hna, Hda⟩ := zam ha
  have HQb := Lib.hid hb
  obtain ⟨negb, Ab, cAb, Bb, cBb, rfl, Hnegb, Hnb, Hdb⟩ := zam hb
  have e0 : (((lim qa.num.natAbs).length : Int) == 0) = false := zeb (zfc ha0)
  have e1 : (((lim qb.num.natAbs).length : Int) == 0) = false := zeb (zfc hb0)
  have Hq := Lib.hid hc
  have H1 := Lib.hid h1
  have HB := Lib.hid hB
  clear ha hb ha0 hb0 hc h1 hB
  obtain ⟨w0, hw0, hb0, ra, rb, rZ, Hz⟩ := boxes3 w #[.bool nega, .slice Aa (lim qa.num.natAbs).length cAa, .slice Ba (lim qa.den).length cBa] #[.bool negb, .slice Ab (lim qb.num.natAbs).length cAb, .slice Bb (lim qb.den).length cBb] #[.bool false, .slice none 0 0, .slice none 0 0] 50 50 50
  have Qa_0 := Lib.hid (IsQ.stb.next HQa.out hb0)
  have Ra_0 := Lib.hid (ra)
  have Qb_0 := Lib.hid (IsQ.stb.next HQb.out hb0)
  have Rb_0 := Lib.hid (rb)
  have Z_0 := Lib.hid (rZ)
  have bw_0 := Lib.hid (hb0)
  have sz_0 : Hid (w.heap.size + 3 ≤ w0.heap.size) := Lib.hid (Nat.le_of_eq Hz.out.symm)
  clear ra rb rZ hb0
  obtain ⟨cRa0_1, cRa1_1, cRa2_1⟩ := zad Ra_0.out
  obtain ⟨cRb0_2, cRb1_2, cRb2_2⟩ := zad Rb_0.out
  obtain ⟨cZ0_3, cZ1_3, cZ2_3⟩ := zad Z_0.out
  obtain ⟨fZ0_3, fZ1_3, fZ2_3⟩ := zaq Z_0.out
  have B_0 := Lib.hid (Bru.next HB.out bw_0.out)
  go_enter Tryd.func89, Tryd.ntmps89
  go_wp2_with fail
  clear hw0
  refine (oneLimb_q Qa_0.out Qb_0.out).mono ?_
  rintro e w1 ⟨⟨b1, rfl, hb1⟩, hb⟩
  have Qa_1 := Lib.hid (IsQ.stb.next Qa_0.out (hb))
  have Ra_1 := Lib.hid (Row.next Ra_0.out (hb))
  have Qb_1 := Lib.hid (IsQ.stb.next Qb_0.out (hb))
  have Rb_1 := Lib.hid (Row.next Rb_0.out (hb))
  have Z_1 := Lib.hid (Row.next Z_0.out (hb))
  have bw_1 := Lib.hid (zaa bw_0.out (hb))
  have sz_1 := Lib.hid (zah sz_0.out (hb))
  have B_1 := Lib.hid (Bru.next B_0.out (hb))
  clear Qa_0 Ra_0 Qb_0 Rb_0 Z_0 bw_0 sz_0 B_0
  obtain rfl : b1 = true := hb1.2 H1.out
  clear hb1
  clear cRa0_1 cRa1_1 cRa2_1 cRb0_2 cRb1_2 cRb2_2 cZ0_3 cZ1_3 cZ2_3 fZ0_3 fZ1_3 fZ2_3
  obtain ⟨cRa0_4, cRa1_4, cRa2_4⟩ := zad Ra_1.out
  obtain ⟨cRb0_5, cRb1_5, cRb2_5⟩ := zad Rb_1.out
  obtain ⟨cZ0_6, cZ1_6, cZ2_6⟩ := zad Z_1.out
  obtain ⟨fZ0_6, fZ1_6, fZ2_6⟩ := zaq Z_1.out
  go_wp2_with fail
  refine (plusWords_q Qa_1.out Qb_1.out B_1.out H1.out Hq.out).mono ?_
  rintro e w2 ⟨⟨v1, rfl, hv⟩, hb⟩
  have newV := Lib.hid (IsQ.stb.le hv sz_1.out)
  have Qa_2 := Lib.hid (IsQ.stb.next Qa_1.out (hb))
  have Ra_2 := Lib.hid (Row.next Ra_1.out (hb))
  have Qb_2 := Lib.hid (IsQ.stb.next Qb_1.out (hb))
  have Rb_2 := Lib.hid (Row.next Rb_1.out (hb))
  have Z_2 := Lib.hid (Row.next Z_1.out (hb))
  have bw_2 := Lib.hid (zaa bw_1.out (hb))
  have sz_2 := Lib.hid (zah sz_1.out (hb))
  have B_2 := Lib.hid (Bru.next B_1.out (hb))
  clear Qa_1 Ra_1 Qb_1 Rb_1 Z_1 bw_1 sz_1 B_1
  have V_0 := newV
  clear newV
  obtain ⟨s1, P1, k1, O1, l1, rfl, _, _, _⟩ := zam hv
  clear cRa0_4 cRa1_4 cRa2_4 cRb0_5 cRb1_5 cRb2_5 cZ0_6 cZ1_6 cZ2_6 fZ0_6 fZ1_6 fZ2_6
  obtain ⟨cRa0_7, cRa1_7, cRa2_7⟩ := zad Ra_2.out
  obtain ⟨cRb0_8, cRb1_8, cRb2_8⟩ := zad Rb_2.out
  obtain ⟨cZ0_9, cZ1_9, cZ2_9⟩ := zad Z_2.out
  obtain ⟨fZ0_9, fZ1_9, fZ2_9⟩ := zaq Z_2.out
  go_wp2_with fail
  refine zbc Tryd.results89 rfl rfl (Row.put3 Z_2.out _ _ _) (zfm V_0.out bw_2.out (by omega) (by omega))
set_option maxRecDepth 100000 in
set_option maxHeartbeats 2000000 in
theorem plus_g {w : World} {va vb : Value} {qa qb qc : Rat} (ha : IsQ w (Old w) va qa) (hb : IsQ w (Old w) vb qb) (hB : Bru w) (hsa : Sz qa 100000) (hsb : Sz qb 100000) (ha0 : qa ≠ 0) (hb0 : qb ≠ 0) (h1 : ¬ OneL qa qb) (hc : qc = qa + qb) : Calls Tryd.prog 89 #[va, vb] w (RetQ w qc) := by
  have HQa := Lib.hid ha
  obtain ⟨nega, Aa, cAa, Ba, cBa, rfl, Hnega, Hna, Hda⟩ := zam ha
  have HQb := Lib.hid hb
  obtain ⟨negb, Ab, cAb, Bb, cBb, rfl, Hnegb, Hnb, Hdb⟩ := zam hb
  have e0 : (((lim qa.num.natAbs).length : Int) == 0) = false := zeb (zfc ha0)
  have e1 : (((lim qb.num.natAbs).length : Int) == 0) = false := zeb (zfc hb0)
  have Hq := Lib.hid hc
  have H1 := Lib.hid h1
  have HB := Lib.hid hB
  have Hsa := Lib.hid hsa
  have Hsb := Lib.hid hsb
  obtain ⟨G, hG⟩ : ∃ G, G = Nat.gcd qa.den qb.den := ⟨_, rfl⟩
  have HG := Lib.hid hG
  have HGp : Hid (0 < G) := by rw [Hid, hG]; exact zeu _ qb.den_nz
  have HGl : Hid ((lim G).length ≤ 100000) := by rw [Hid, hG]; exact gcd_le_r _ qb.den_nz hsb.2
  have HE1 : Hid ((lim (qa.den / G)).length ≤ 100000) := zdt hsa.2
  have HE2 : Hid ((lim (qb.den / G)).length ≤ 100000) := zdt hsb.2
  clear ha hb ha0 hb0 hc h1 hB hsa hsb hG
  obtain ⟨w0, hw0, hb0, ra, rb, rZ, Hz⟩ := boxes3 w #[.bool nega, .slice Aa (lim qa.num.natAbs).length cAa, .slice Ba (lim qa.den).length cBa] #[.bool negb, .slice Ab (lim qb.num.natAbs).length cAb, .slice Bb (lim qb.den).length cBb] #[.bool false, .slice none 0 0, .slice none 0 0] 50 50 50
  have Qa_0 := Lib.hid (IsQ.stb.next HQa.out hb0)
  have Ra_0 := Lib.hid (ra)
  have Qb_0 := Lib.hid (IsQ.stb.next HQb.out hb0)
  have Rb_0 := Lib.hid (rb)
  have Z_0 := Lib.hid (rZ)
  have bw_0 := Lib.hid (hb0)
  have sz_0 : Hid (w.heap.size + 3 ≤ w0.heap.size) := Lib.hid (Nat.le_of_eq Hz.out.symm)
  clear ra rb rZ hb0
  obtain ⟨cRa0_1, cRa1_1, cRa2_1⟩ := zad Ra_0.out
  obtain ⟨cRb0_2, cRb1_2, cRb2_2⟩ := zad Rb_0.out
  obtain ⟨cZ0_3, cZ1_3, cZ2_3⟩ := zad Z_0.out
  obtain ⟨fZ0_3, fZ1_3, fZ2_3⟩ := zaq Z_0.out
  have B_0 := Lib.hid (Bru.next HB.out bw_0.out)
  go_enter Tryd.func89, Tryd.ntmps89
  go_wp2_with fail
  clear hw0
  refine (oneLimb_q Qa_0.out Qb_0.out).mono ?_
  rintro e w1 ⟨⟨b1, rfl, hb1⟩, hb⟩
  have Qa_1 := Lib.hid (IsQ.stb.next Qa_0.out (hb))
  have Ra_1 := Lib.hid (Row.next Ra_0.out (hb))
  have Qb_1 := Lib.hid (IsQ.stb.next Qb_0.out (hb))
  have Rb_1 := Lib.hid (Row.next Rb_0.out (hb))
  have Z_1 := Lib.hid (Row.next Z_0.out (hb))
  have bw_1 := Lib.hid (zaa bw_0.out (hb))
  have sz_1 := Lib.hid (zah sz_0.out (hb))
  have B_1 := Lib.hid (Bru.next B_0.out (hb))
  clear Qa_0 Ra_0 Qb_0 Rb_0 Z_0 bw_0 sz_0 B_0
  obtain rfl : b1 = false := by cases b1 with | false => rfl | true => exact absurd (hb1.1 rfl) H1.out
  clear hb1
  clear cRa0_1 cRa1_1 cRa2_1 cRb0_2 cRb1_2 cRb2_2 cZ0_3 cZ1_3 cZ2_3 fZ0_3 fZ1_3 fZ2_3
  obtain ⟨cRa0_4, cRa1_4, cRa2_4⟩ := zad Ra_1.out
  obtain ⟨cRb0_5, cRb1_5, cRb2_5⟩ := zad Rb_1.out
  obtain ⟨cZ0_6, cZ1_6, cZ2_6⟩ := zad Z_1.out
  obtain ⟨fZ0_6, fZ1_6, fZ2_6⟩ := zaq Z_1.out
  go_wp2_with fail
  refine ((show Calls Tryd.prog 118 #[.slice Ba (lim qa.den).length cBa, .slice Bb (lim qb.den).length cBb] w1 (fun e w' => (∃ v, e = .returned v ∧ IsN w' w1.heap.size w'.heap.size v G) ∧ Below w1.heap.size w1 w') from by rw [HG.out]; exact gcd_n (zal (zcv Qa_1.out)) (zal (zcv Qb_1.out)) B_1.out (Nat.le_trans Hsa.out.2 (by omega)) (Nat.le_trans Hsb.out.2 (by omega)))).mono ?_
  rintro e w2 ⟨⟨v1, rfl, hv⟩, hb⟩
  have newG := Lib.hid (zaz hv sz_1.out)
  have Qa_2 := Lib.hid (IsQ.stb.next Qa_1.out (hb))
  have Ra_2 := Lib.hid (Row.next Ra_1.out (hb))
  have Qb_2 := Lib.hid (IsQ.stb.next Qb_1.out (hb))
  have Rb_2 := Lib.hid (Row.next Rb_1.out (hb))
  have Z_2 := Lib.hid (Row.next Z_1.out (hb))
  have bw_2 := Lib.hid (zaa bw_1.out (hb))
  have sz_2 := Lib.hid (zah sz_1.out (hb))
  have B_2 := Lib.hid (Bru.next B_1.out (hb))
  clear Qa_1 Ra_1 Qb_1 Rb_1 Z_1 bw_1 sz_1 B_1
  have G_0 := newG
  clear newG
  obtain ⟨P1, k1, rfl, _, _, _⟩ := id hv
  clear cRa0_4 cRa1_4 cRa2_4 cRb0_5 cRb1_5 cRb2_5 cZ0_6 cZ1_6 cZ2_6 fZ0_6 fZ1_6 fZ2_6
  obtain ⟨cRa0_7, cRa1_7, cRa2_7⟩ := zad Ra_2.out
  obtain ⟨cRb0_8, cRb1_8, cRb2_8⟩ := zad Rb_2.out
  obtain ⟨cZ0_9, cZ1_9, cZ2_9⟩ := zad Z_2.out
  obtain ⟨fZ0_9, fZ1_9, fZ2_9⟩ := zaq Z_2.out
  go_wp2_with fail
  have Qa_3 := Lib.hid (IsQ.stb.next Qa_2.out (zab _))
  have Ra_3 := Lib.hid (Row.next Ra_2.out (zab _))
  have Qb_3 := Lib.hid (IsQ.stb.next Qb_2.out (zab _))
  have Rb_3 := Lib.hid (Row.next Rb_2.out (zab _))
  have Z_3 := Lib.hid (Row.next Z_2.out (zab _))
  have bw_3 := Lib.hid (zaa bw_2.out (zab _))
  have sz_3 := Lib.hid (zah sz_2.out (zab _))
  have B_3 := Lib.hid (Bru.next B_2.out (zab _))
  have G_1 := Lib.hid (IsK.stb.fresh G_0.out (zab _))
  clear Qa_2 Ra_2 Qb_2 Rb_2 Z_2 bw_2 sz_2 B_2 G_0
  go_region_held3 (fun w' => w'.cell? ⟨w.heap.size, 2, none⟩ = some (.slice Ba (lim qa.den).length cBa) ∧ w'.cell? ⟨w.heap.size + 1, 2, none⟩ = some (.slice Bb (lim qb.den).length cBb))
    (first
      | exact ⟨cRa2_7, cRb2_8⟩
      | exact ⟨cRa2_10, cRb2_11⟩
      | exact ⟨cRa2_13, cRb2_14⟩)
    (first
      | (go_at_call 119; have hc := zdd (zcv Qa_3.out) (zal (IsK.stb.old G_1.out)) (Nat.le_trans Hsa.out.2 (by omega)) (Nat.le_trans HGl.out (by omega)) HGp.out; (with_reducible refine hc.mono ?_); clear hc; rintro e w3 ⟨⟨v3, rfl, hv3⟩, hb⟩; have newE1 := Lib.hid (hv3); have Qa_4 := Lib.hid (IsQ.stb.next Qa_3.out (hb)); have Ra_4 := Lib.hid (Row.next Ra_3.out (hb)); have Qb_4 := Lib.hid (IsQ.stb.next Qb_3.out (hb)); have Rb_4 := Lib.hid (Row.next Rb_3.out (hb)); have Z_4 := Lib.hid (Row.next Z_3.out (hb)); have bw_4 := Lib.hid (zaa bw_3.out (hb)); have sz_4 := Lib.hid (zah sz_3.out (hb)); have B_4 := Lib.hid (Bru.next B_3.out (hb)); have G_2 := Lib.hid (IsK.stb.fresh G_1.out (hb)); clear Qa_3 Ra_3 Qb_3 Rb_3 Z_3 bw_3 sz_3 B_3 G_1; have E1_0 := newE1; clear newE1; obtain ⟨P3, k3, rfl, _, _, _⟩ := id hv3; clear cRa0_7 cRa1_7 cRa2_7 cRb0_8 cRb1_8 cRb2_8 cZ0_9 cZ1_9 cZ2_9 fZ0_9 fZ1_9 fZ2_9; obtain ⟨cRa0_10, cRa1_10, cRa2_10⟩ := zad Ra_4.out; obtain ⟨cRb0_11, cRb1_11, cRb2_11⟩ := zad Rb_4.out; obtain ⟨cZ0_12, cZ1_12, cZ2_12⟩ := zad Z_4.out; obtain ⟨fZ0_12, fZ1_12, fZ2_12⟩ := zaq Z_4.out)
      | (go_at_call 119; have hc := zdd (zcv Qb_4.out) (zal (IsK.stb.old G_2.out)) (Nat.le_trans Hsb.out.2 (by omega)) (Nat.le_trans HGl.out (by omega)) HGp.out; (with_reducible refine hc.mono ?_); clear hc; rintro e w4 ⟨⟨v4, rfl, hv4⟩, hb⟩; have newE2 := Lib.hid (hv4); have Qa_5 := Lib.hid (IsQ.stb.next Qa_4.out (hb)); have Ra_5 := Lib.hid (Row.next Ra_4.out (hb)); have Qb_5 := Lib.hid (IsQ.stb.next Qb_4.out (hb)); have Rb_5 := Lib.hid (Row.next Rb_4.out (hb)); have Z_5 := Lib.hid (Row.next Z_4.out (hb)); have bw_5 := Lib.hid (zaa bw_4.out (hb)); have sz_5 := Lib.hid (zah sz_4.out (hb)); have B_5 := Lib.hid (Bru.next B_4.out (hb)); have G_3 := Lib.hid (IsK.stb.fresh G_2.out (hb)); have E1_1 := Lib.hid (IsK.stb.next E1_0.out (hb)); clear Qa_4 Ra_4 Qb_4 Rb_4 Z_4 bw_4 sz_4 B_4 G_2 E1_0; have E2_0 := newE2; clear newE2; obtain ⟨P4, k4, rfl, _, _, _⟩ := id hv4; clear cRa0_10 cRa1_10 cRa2_10 cRb0_11 cRb1_11 cRb2_11 cZ0_12 cZ1_12 cZ2_12 fZ0_12 fZ1_12 fZ2_12; obtain ⟨cRa0_13, cRa1_13, cRa2_13⟩ := zad Ra_5.out; obtain ⟨cRb0_14, cRb1_14, cRb2_14⟩ := zad Rb_5.out; obtain ⟨cZ0_15, cZ1_15, cZ2_15⟩ := zad Z_5.out; obtain ⟨fZ0_15, fZ1_15, fZ2_15⟩ := zaq Z_5.out))
  go_wp2_with fail
  obtain ⟨n1, hn1⟩ : ∃ n1, n1 = qa.num.natAbs * (qb.den / G) := ⟨_, rfl⟩
  obtain ⟨n2, hn2⟩ : ∃ n2, n2 = qb.num.natAbs * (qa.den / G) := ⟨_, rfl⟩
  have N1l : Hid ((lim n1).length ≤ 2000000) := by rw [Hid, hn1]; exact Nat.le_trans (sz_mul Hsa.out.1 HE2.out) (by omega)
  have N2l : Hid ((lim n2).length ≤ 2000000) := by rw [Hid, hn2]; exact Nat.le_trans (sz_mul Hsb.out.1 HE1.out) (by omega)
  have Hn1 := Lib.hid hn1
  have Hn2 := Lib.hid hn2
  clear hn1 hn2
  have Qa_6 := Lib.hid (IsQ.stb.next Qa_5.out (zab _))
  have Ra_6 := Lib.hid (Row.next Ra_5.out (zab _))
  have Qb_6 := Lib.hid (IsQ.stb.next Qb_5.out (zab _))
  have Rb_6 := Lib.hid (Row.next Rb_5.out (zab _))
  have Z_6 := Lib.hid (Row.next Z_5.out (zab _))
  have bw_6 := Lib.hid (zaa bw_5.out (zab _))
  have sz_6 := Lib.hid (zah sz_5.out (zab _))
  have B_6 := Lib.hid (Bru.next B_5.out (zab _))
  have G_4 := Lib.hid (IsK.stb.fresh G_3.out (zab _))
  have E1_2 := Lib.hid (IsK.stb.next E1_1.out (zab _))
  have E2_1 := Lib.hid (IsK.stb.next E2_0.out (zab _))
  clear Qa_5 Ra_5 Qb_5 Rb_5 Z_5 bw_5 sz_5 B_5 G_3 E1_1 E2_0
  go_region_held3 (fun w' => w'.cell? ⟨w.heap.size, 0, none⟩ = some (.bool nega) ∧ w'.cell? ⟨w.heap.size, 1, none⟩ = some (.slice Aa (lim qa.num.natAbs).length cAa) ∧ w'.cell? ⟨w.heap.size + 1, 0, none⟩ = some (.bool negb) ∧ w'.cell? ⟨w.heap.size + 1, 1, none⟩ = some (.slice Ab (lim qb.num.natAbs).length cAb))
    (first
      | exact ⟨cRa0_13, cRa1_13, cRb0_14, cRb1_14⟩
      | exact ⟨cRa0_16, cRa1_16, cRb0_17, cRb1_17⟩
      | exact ⟨cRa0_19, cRa1_19, cRb0_20, cRb1_20⟩
      | exact ⟨cRa0_22, cRa1_22, cRb0_23, cRb1_23⟩)
    (first
      | (go_at_call 97; have hc := (show Calls Tryd.prog 97 #[.slice Aa (lim qa.num.natAbs).length cAa, .slice P4 (lim (qb.den / G)).length k4] (World.drew w4) (fun e w' => (∃ v, e = .returned v ∧ IsN w' (World.heap (World.drew w4)).size w'.heap.size v n1) ∧ Below (World.heap (World.drew w4)).size (World.drew w4) w') from by rw [Hn1.out]; exact mul_n (zal (zdm Qa_6.out)) (zal E2_1.out) (Nat.le_refl _) (Nat.le_refl _) (Nat.le_trans Hsa.out.1 (by omega)) (Nat.le_trans HE2.out (by omega))); (with_reducible refine hc.mono ?_); clear hc; rintro e w5 ⟨⟨v5, rfl, hv5⟩, hb⟩; have newM1 := Lib.hid (zaz hv5 sz_6.out); have Qa_7 := Lib.hid (IsQ.stb.next Qa_6.out (hb)); have Ra_7 := Lib.hid (Row.next Ra_6.out (hb)); have Qb_7 := Lib.hid (IsQ.stb.next Qb_6.out (hb)); have Rb_7 := Lib.hid (Row.next Rb_6.out (hb)); have Z_7 := Lib.hid (Row.next Z_6.out (hb)); have bw_7 := Lib.hid (zaa bw_6.out (hb)); have sz_7 := Lib.hid (zah sz_6.out (hb)); have B_7 := Lib.hid (Bru.next B_6.out (hb)); have G_5 := Lib.hid (IsK.stb.fresh G_4.out (hb)); have E1_3 := Lib.hid (IsK.stb.next E1_2.out (hb)); have E2_2 := Lib.hid (IsK.stb.next E2_1.out (hb)); clear Qa_6 Ra_6 Qb_6 Rb_6 Z_6 bw_6 sz_6 B_6 G_4 E1_2 E2_1; have M1_0 := newM1; clear newM1; obtain ⟨P5, k5, rfl, _, _, _⟩ := id hv5; clear cRa0_13 cRa1_13 cRa2_13 cRb0_14 cRb1_14 cRb2_14 cZ0_15 cZ1_15 cZ2_15 fZ0_15 fZ1_15 fZ2_15; obtain ⟨cRa0_16, cRa1_16, cRa2_16⟩ := zad Ra_7.out; obtain ⟨cRb0_17, cRb1_17, cRb2_17⟩ := zad Rb_7.out; obtain ⟨cZ0_18, cZ1_18, cZ2_18⟩ := zad Z_7.out; obtain ⟨fZ0_18, fZ1_18, fZ2_18⟩ := zaq Z_7.out)
      | (go_at_call 97; have hc := (show Calls Tryd.prog 97 #[.slice Ab (lim qb.num.natAbs).length cAb, .slice P3 (lim (qa.den / G)).length k3] w5 (fun e w' => (∃ v, e = .returned v ∧ IsN w' (World.heap w5).size w'.heap.size v n2) ∧ Below (World.heap w5).size w5 w') from by rw [Hn2.out]; exact mul_n (zal (zdm Qb_7.out)) (zal E1_3.out) (Nat.le_refl _) (Nat.le_refl _) (Nat.le_trans Hsb.out.1 (by omega)) (Nat.le_trans HE1.out (by omega))); (with_reducible refine hc.mono ?_); clear hc; rintro e w6 ⟨⟨v6, rfl, hv6⟩, hb⟩; have newM2 := Lib.hid (zaz hv6 sz_7.out); have Qa_8 := Lib.hid (IsQ.stb.next Qa_7.out (hb)); have Ra_8 := Lib.hid (Row.next Ra_7.out (hb)); have Qb_8 := Lib.hid (IsQ.stb.next Qb_7.out (hb)); have Rb_8 := Lib.hid (Row.next Rb_7.out (hb)); have Z_8 := Lib.hid (Row.next Z_7.out (hb)); have bw_8 := Lib.hid (zaa bw_7.out (hb)); have sz_8 := Lib.hid (zah sz_7.out (hb)); have B_8 := Lib.hid (Bru.next B_7.out (hb)); have G_6 := Lib.hid (IsK.stb.fresh G_5.out (hb)); have E1_4 := Lib.hid (IsK.stb.next E1_3.out (hb)); have E2_3 := Lib.hid (IsK.stb.next E2_2.out (hb)); have M1_1 := Lib.hid (IsK.stb.fresh M1_0.out (hb)); clear Qa_7 Ra_7 Qb_7 Rb_7 Z_7 bw_7 sz_7 B_7 G_5 E1_3 E2_2 M1_0; have M2_0 := newM2; clear newM2; obtain ⟨P6, k6, rfl, _, _, _⟩ := id hv6; clear cRa0_16 cRa1_16 cRa2_16 cRb0_17 cRb1_17 cRb2_17 cZ0_18 cZ1_18 cZ2_18 fZ0_18 fZ1_18 fZ2_18; obtain ⟨cRa0_19, cRa1_19, cRa2_19⟩ := zad Ra_8.out; obtain ⟨cRb0_20, cRb1_20, cRb2_20⟩ := zad Rb_8.out; obtain ⟨cZ0_21, cZ1_21, cZ2_21⟩ := zad Z_8.out; obtain ⟨fZ0_21, fZ1_21, fZ2_21⟩ := zaq Z_8.out)
      | (go_at_call 120; have hc := join_n nega negb (zal (IsK.stb.old M1_1.out)) (zal (IsK.stb.old M2_0.out)) N1l.out N2l.out; (with_reducible refine hc.mono ?_); clear hc; rintro e w7 ⟨⟨s7, v7, n, rfl, Hj, hv7, hnl⟩, hb⟩; have newN := Lib.hid (zaz hv7 sz_8.out); have Qa_9 := Lib.hid (IsQ.stb.next Qa_8.out (hb)); have Ra_9 := Lib.hid (Row.next Ra_8.out (hb)); have Qb_9 := Lib.hid (IsQ.stb.next Qb_8.out (hb)); have Rb_9 := Lib.hid (Row.next Rb_8.out (hb)); have Z_9 := Lib.hid (Row.next Z_8.out (hb)); have bw_9 := Lib.hid (zaa bw_8.out (hb)); have sz_9 := Lib.hid (zah sz_8.out (hb)); have B_9 := Lib.hid (Bru.next B_8.out (hb)); have G_7 := Lib.hid (IsK.stb.fresh G_6.out (hb)); have E1_5 := Lib.hid (IsK.stb.next E1_4.out (hb)); have E2_4 := Lib.hid (IsK.stb.next E2_3.out (hb)); have M1_2 := Lib.hid (IsK.stb.fresh M1_1.out (hb)); have M2_1 := Lib.hid (IsK.stb.fresh M2_0.out (hb)); clear Qa_8 Ra_8 Qb_8 Rb_8 Z_8 bw_8 sz_8 B_8 G_6 E1_4 E2_3 M1_1 M2_0; have N_0 := newN; clear newN; obtain ⟨P7, k7, rfl, _, _, _⟩ := id hv7; clear cRa0_19 cRa1_19 cRa2_19 cRb0_20 cRb1_20 cRb2_20 cZ0_21 cZ1_21 cZ2_21 fZ0_21 fZ1_21 fZ2_21; obtain ⟨cRa0_22, cRa1_22, cRa2_22⟩ := zad Ra_9.out; obtain ⟨cRb0_23, cRb1_23, cRb2_23⟩ := zad Rb_9.out; obtain ⟨cZ0_24, cZ1_24, cZ2_24⟩ := zad Z_9.out; obtain ⟨fZ0_24, fZ1_24, fZ2_24⟩ := zaq Z_9.out))
  have Hj2 : Hid (sg s7 n = sg nega (qa.num.natAbs * (qb.den / G)) + sg negb (qb.num.natAbs * (qa.den / G))) := by rw [← Hn1.out, ← Hn2.out]; exact Hj.out
  clear Hj
  have Hnl := Lib.hid hnl
  clear hnl
  rcases Nat.eq_zero_or_pos n with hn | hn
  · have Hr : Hid (qc = 0) := by rw [Hid, Hq.out]; exact plus_nil Hnega.out Hnegb.out HG.out Hj2.out hn
    have e2 := len_zero hn
    clear hn
    go_wp2_with fail
    refine (zero_q _).mono ?_
    rintro e w8 ⟨⟨v8, rfl, hv⟩, hb⟩
    have newV := Lib.hid (IsQ.stb.le hv sz_9.out)
    have Qa_10 := Lib.hid (IsQ.stb.next Qa_9.out (hb))
    have Ra_10 := Lib.hid (Row.next Ra_9.out (hb))
    have Qb_10 := Lib.hid (IsQ.stb.next Qb_9.out (hb))
    have Rb_10 := Lib.hid (Row.next Rb_9.out (hb))
    have Z_10 := Lib.hid (Row.next Z_9.out (hb))
    have bw_10 := Lib.hid (zaa bw_9.out (hb))
    have sz_10 := Lib.hid (zah sz_9.out (hb))
    have B_10 := Lib.hid (Bru.next B_9.out (hb))
    have G_8 := Lib.hid (IsK.stb.fresh G_7.out (hb))
    have E1_6 := Lib.hid (IsK.stb.next E1_5.out (hb))
    have E2_5 := Lib.hid (IsK.stb.next E2_4.out (hb))
    have M1_3 := Lib.hid (IsK.stb.fresh M1_2.out (hb))
    have M2_2 := Lib.hid (IsK.stb.fresh M2_1.out (hb))
    have N_1 := Lib.hid (IsK.stb.fresh N_0.out (hb))
    clear Qa_9 Ra_9 Qb_9 Rb_9 Z_9 bw_9 sz_9 B_9 G_7 E1_5 E2_4 M1_2 M2_1 N_0
    have V_0 := newV
    clear newV
    obtain ⟨s8, P8, k8, O8, l8, rfl, _, _, _⟩ := zam hv
    clear cRa0_22 cRa1_22 cRa2_22 cRb0_23 cRb1_23 cRb2_23 cZ0_24 cZ1_24 cZ2_24 fZ0_24 fZ1_24 fZ2_24
    obtain ⟨cRa0_25, cRa1_25, cRa2_25⟩ := zad Ra_10.out
    obtain ⟨cRb0_26, cRb1_26, cRb2_26⟩ := zad Rb_10.out
    obtain ⟨cZ0_27, cZ1_27, cZ2_27⟩ := zad Z_10.out
    obtain ⟨fZ0_27, fZ1_27, fZ2_27⟩ := zaq Z_10.out
    go_wp2_with fail
    rw [Hr.out]
    refine zbc Tryd.results89 rfl rfl (Row.put3 Z_10.out _ _ _) (zfm V_0.out bw_10.out (by omega) (by omega))
  · have e2 := zeb (by omega : n ≠ 0)
    have Hn0 : Hid (n ≠ 0) := by unfold Hid; omega
    clear hn
    by_cases hG1 : G = 1
    · have Hr : Hid (raw qc = ⟨s7, lim n, lim (qa.den * qb.den)⟩) := by rw [Hid, Hq.out]; exact plus_raw1 Hnega.out Hnegb.out HG.out Hj2.out Hn0.out hG1
      have e3 : decide (G = 1) = true := decide_eq_true hG1
      clear hG1
      go_wp2_with fail
      refine (zfl (zal (IsK.stb.old G_7.out))).mono ?_
      rw [e3]
      rintro e w8 ⟨rfl, rfl⟩
      go_wp2_with fail
      refine (mul_n (zal (zcv Qa_9.out)) (zal (zcv Qb_9.out)) (Nat.le_refl _) (Nat.le_refl _) (Nat.le_trans Hsa.out.2 (by omega)) (Nat.le_trans Hsb.out.2 (by omega))).mono ?_
      rintro e w9 ⟨⟨v9, rfl, hv9⟩, hb⟩
      have newM3 := Lib.hid (zaz hv9 sz_9.out)
      have Qa_10 := Lib.hid (IsQ.stb.next Qa_9.out (hb))
      have Ra_10 := Lib.hid (Row.next Ra_9.out (hb))
      have Qb_10 := Lib.hid (IsQ.stb.next Qb_9.out (hb))
      have Rb_10 := Lib.hid (Row.next Rb_9.out (hb))
      have Z_10 := Lib.hid (Row.next Z_9.out (hb))
      have bw_10 := Lib.hid (zaa bw_9.out (hb))
      have sz_10 := Lib.hid (zah sz_9.out (hb))
      have B_10 := Lib.hid (Bru.next B_9.out (hb))
      have G_8 := Lib.hid (IsK.stb.fresh G_7.out (hb))
      have E1_6 := Lib.hid (IsK.stb.next E1_5.out (hb))
      have E2_5 := Lib.hid (IsK.stb.next E2_4.out (hb))
      have M1_3 := Lib.hid (IsK.stb.fresh M1_2.out (hb))
      have M2_2 := Lib.hid (IsK.stb.fresh M2_1.out (hb))
      have N_1 := Lib.hid (IsK.stb.fresh N_0.out (hb))
      clear Qa_9 Ra_9 Qb_9 Rb_9 Z_9 bw_9 sz_9 B_9 G_7 E1_5 E2_4 M1_2 M2_1 N_0
      have M3_0 := newM3
      clear newM3
      obtain ⟨P9, k9, rfl, _, _, _⟩ := id hv9
      clear cRa0_22 cRa1_22 cRa2_22 cRb0_23 cRb1_23 cRb2_23 cZ0_24 cZ1_24 cZ2_24 fZ0_24 fZ1_24 fZ2_24
      obtain ⟨cRa0_25, cRa1_25, cRa2_25⟩ := zad Ra_10.out
      obtain ⟨cRb0_26, cRb1_26, cRb2_26⟩ := zad Rb_10.out
      obtain ⟨cZ0_27, cZ1_27, cZ2_27⟩ := zad Z_10.out
      obtain ⟨fZ0_27, fZ1_27, fZ2_27⟩ := zaq Z_10.out
      go_wp2_with fail
      refine zbc Tryd.results89 rfl rfl (Row.put3 Z_10.out _ _ _) (retQ Hr.out bw_10.out (by omega) N_1.out M3_0.out (by omega) (by omega))
    · have Hr : Hid (raw qc = ⟨s7, lim (n / Nat.gcd n G), lim (qa.den / G * (qb.den / Nat.gcd n G))⟩) := by rw [Hid, Hq.out]; exact plus_raw Hnega.out Hnegb.out HG.out Hj2.out Hn0.out
      have e3 : decide (G = 1) = false := decide_eq_false hG1
      clear hG1
      obtain ⟨C, hC⟩ : ∃ C, C = Nat.gcd n G := ⟨_, rfl⟩
      have HC := Lib.hid hC
      have HCp : Hid (0 < C) := by rw [Hid, hC]; exact zeu _ (by have := HGp.out; omega)
      have HCl : Hid ((lim C).length ≤ 100000) := by rw [Hid, hC]; exact gcd_le_r _ (by have := HGp.out; omega) HGl.out
      rw [← hC] at Hr
      clear hC
      have HE3 : Hid ((lim (qb.den / C)).length ≤ 100000) := zdt Hsb.out.2
      go_wp2_with fail
      refine (zfl (zal (IsK.stb.old G_7.out))).mono ?_
      rw [e3]
      rintro e w8 ⟨rfl, rfl⟩
      go_wp2_with fail
      refine ((show Calls Tryd.prog 118 #[.slice P7 (lim n).length k7, .slice P1 (lim G).length k1] w7 (fun e w' => (∃ v, e = .returned v ∧ IsN w' w7.heap.size w'.heap.size v C) ∧ Below w7.heap.size w7 w') from by rw [HC.out]; exact gcd_n (zal (IsK.stb.old N_0.out)) (zal (IsK.stb.old G_7.out)) B_9.out (Nat.le_trans Hnl.out (by omega)) (Nat.le_trans HGl.out (by omega)))).mono ?_
      rintro e w9 ⟨⟨v9, rfl, hv⟩, hb⟩
      have newC := Lib.hid (zaz hv sz_9.out)
      have Qa_10 := Lib.hid (IsQ.stb.next Qa_9.out (hb))
      have Ra_10 := Lib.hid (Row.next Ra_9.out (hb))
      have Qb_10 := Lib.hid (IsQ.stb.next Qb_9.out (hb))
      have Rb_10 := Lib.hid (Row.next Rb_9.out (hb))
      have Z_10 := Lib.hid (Row.next Z_9.out (hb))
      have bw_10 := Lib.hid (zaa bw_9.out (hb))
      have sz_10 := Lib.hid (zah sz_9.out (hb))
      have B_10 := Lib.hid (Bru.next B_9.out (hb))
      have G_8 := Lib.hid (IsK.stb.fresh G_7.out (hb))
      have E1_6 := Lib.hid (IsK.stb.next E1_5.out (hb))
      have E2_5 := Lib.hid (IsK.stb.next E2_4.out (hb))
      have M1_3 := Lib.hid (IsK.stb.fresh M1_2.out (hb))
      have M2_2 := Lib.hid (IsK.stb.fresh M2_1.out (hb))
      have N_1 := Lib.hid (IsK.stb.fresh N_0.out (hb))
      clear Qa_9 Ra_9 Qb_9 Rb_9 Z_9 bw_9 sz_9 B_9 G_7 E1_5 E2_4 M1_2 M2_1 N_0
      have C_0 := newC
      clear newC
      obtain ⟨P9, k9, rfl, _, _, _⟩ := id hv
      clear cRa0_22 cRa1_22 cRa2_22 cRb0_23 cRb1_23 cRb2_23 cZ0_24 cZ1_24 cZ2_24 fZ0_24 fZ1_24 fZ2_24
      obtain ⟨cRa0_25, cRa1_25, cRa2_25⟩ := zad Ra_10.out
      obtain ⟨cRb0_26, cRb1_26, cRb2_26⟩ := zad Rb_10.out
      obtain ⟨cZ0_27, cZ1_27, cZ2_27⟩ := zad Z_10.out
      obtain ⟨fZ0_27, fZ1_27, fZ2_27⟩ := zaq Z_10.out
      go_wp2_with fail
      have Qa_11 := Lib.hid (IsQ.stb.next Qa_10.out (zab _))
      have Ra_11 := Lib.hid (Row.next Ra_10.out (zab _))
      have Qb_11 := Lib.hid (IsQ.stb.next Qb_10.out (zab _))
      have Rb_11 := Lib.hid (Row.next Rb_10.out (zab _))
      have Z_11 := Lib.hid (Row.next Z_10.out (zab _))
      have bw_11 := Lib.hid (zaa bw_10.out (zab _))
      have sz_11 := Lib.hid (zah sz_10.out (zab _))
      have B_11 := Lib.hid (Bru.next B_10.out (zab _))
      have G_9 := Lib.hid (IsK.stb.fresh G_8.out (zab _))
      have E1_7 := Lib.hid (IsK.stb.next E1_6.out (zab _))
      have E2_6 := Lib.hid (IsK.stb.next E2_5.out (zab _))
      have M1_4 := Lib.hid (IsK.stb.fresh M1_3.out (zab _))
      have M2_3 := Lib.hid (IsK.stb.fresh M2_2.out (zab _))
      have N_2 := Lib.hid (IsK.stb.fresh N_1.out (zab _))
      have C_1 := Lib.hid (IsK.stb.fresh C_0.out (zab _))
      clear Qa_10 Ra_10 Qb_10 Rb_10 Z_10 bw_10 sz_10 B_10 G_8 E1_6 E2_5 M1_3 M2_2 N_1 C_0
      go_region_held3 (fun w' => w'.cell? ⟨w.heap.size + 1, 2, none⟩ = some (.slice Bb (lim qb.den).length cBb))
        (first
          | exact cRb2_26
          | exact cRb2_29
          | exact cRb2_32
          | exact cRb2_35
          | exact zar cRb2_35 (by omega))
        (first
          | (go_at_call 119; have hc := over_new N_2.out sz_11.out (zal (IsK.stb.old C_1.out)) (Nat.le_trans Hnl.out (by omega)) (Nat.le_trans HCl.out (by omega)) HCp.out; (with_reducible refine hc.mono ?_); clear hc; rintro e w10 ⟨⟨v10, rfl, hv10⟩, hb⟩; have newU := Lib.hid (hv10); have Qa_12 := Lib.hid (IsQ.stb.next Qa_11.out (hb)); have Ra_12 := Lib.hid (Row.next Ra_11.out (hb)); have Qb_12 := Lib.hid (IsQ.stb.next Qb_11.out (hb)); have Rb_12 := Lib.hid (Row.next Rb_11.out (hb)); have Z_12 := Lib.hid (Row.next Z_11.out (hb)); have bw_12 := Lib.hid (zaa bw_11.out (hb)); have sz_12 := Lib.hid (zah sz_11.out (hb)); have B_12 := Lib.hid (Bru.next B_11.out (hb)); have G_10 := Lib.hid (IsK.stb.fresh G_9.out (hb)); have E1_8 := Lib.hid (IsK.stb.next E1_7.out (hb)); have E2_7 := Lib.hid (IsK.stb.next E2_6.out (hb)); have M1_5 := Lib.hid (IsK.stb.fresh M1_4.out (hb)); have M2_4 := Lib.hid (IsK.stb.fresh M2_3.out (hb)); have N_3 := Lib.hid (IsK.stb.fresh N_2.out (hb)); have C_2 := Lib.hid (IsK.stb.fresh C_1.out (hb)); clear Qa_11 Ra_11 Qb_11 Rb_11 Z_11 bw_11 sz_11 B_11 G_9 E1_7 E2_6 M1_4 M2_3 N_2 C_1; have U_0 := newU; clear newU; obtain ⟨P10, k10, rfl, _, _, _⟩ := id hv10; clear cRa0_25 cRa1_25 cRa2_25 cRb0_26 cRb1_26 cRb2_26 cZ0_27 cZ1_27 cZ2_27 fZ0_27 fZ1_27 fZ2_27; obtain ⟨cRa0_28, cRa1_28, cRa2_28⟩ := zad Ra_12.out; obtain ⟨cRb0_29, cRb1_29, cRb2_29⟩ := zad Rb_12.out; obtain ⟨cZ0_30, cZ1_30, cZ2_30⟩ := zad Z_12.out; obtain ⟨fZ0_30, fZ1_30, fZ2_30⟩ := zaq Z_12.out)
          | (go_at_call 119; have hc := zdd (zcv Qb_12.out) (zal (IsK.stb.old C_2.out)) (Nat.le_trans Hsb.out.2 (by omega)) (Nat.le_trans HCl.out (by omega)) HCp.out; (with_reducible refine hc.mono ?_); clear hc; rintro e w11 ⟨⟨v11, rfl, hv11⟩, hb⟩; have newE3 := Lib.hid (hv11); have Qa_13 := Lib.hid (IsQ.stb.next Qa_12.out (hb)); have Ra_13 := Lib.hid (Row.next Ra_12.out (hb)); have Qb_13 := Lib.hid (IsQ.stb.next Qb_12.out (hb)); have Rb_13 := Lib.hid (Row.next Rb_12.out (hb)); have Z_13 := Lib.hid (Row.next Z_12.out (hb)); have bw_13 := Lib.hid (zaa bw_12.out (hb)); have sz_13 := Lib.hid (zah sz_12.out (hb)); have B_13 := Lib.hid (Bru.next B_12.out (hb)); have G_11 := Lib.hid (IsK.stb.fresh G_10.out (hb)); have E1_9 := Lib.hid (IsK.stb.next E1_8.out (hb)); have E2_8 := Lib.hid (IsK.stb.next E2_7.out (hb)); have M1_6 := Lib.hid (IsK.stb.fresh M1_5.out (hb)); have M2_5 := Lib.hid (IsK.stb.fresh M2_4.out (hb)); have N_4 := Lib.hid (IsK.stb.fresh N_3.out (hb)); have C_3 := Lib.hid (IsK.stb.fresh C_2.out (hb)); have U_1 := Lib.hid (IsK.stb.fresh U_0.out (hb)); clear Qa_12 Ra_12 Qb_12 Rb_12 Z_12 bw_12 sz_12 B_12 G_10 E1_8 E2_7 M1_5 M2_4 N_3 C_2 U_0; have E3_0 := newE3; clear newE3; obtain ⟨P11, k11, rfl, _, _, _⟩ := id hv11; clear cRa0_28 cRa1_28 cRa2_28 cRb0_29 cRb1_29 cRb2_29 cZ0_30 cZ1_30 cZ2_30 fZ0_30 fZ1_30 fZ2_30; obtain ⟨cRa0_31, cRa1_31, cRa2_31⟩ := zad Ra_13.out; obtain ⟨cRb0_32, cRb1_32, cRb2_32⟩ := zad Rb_13.out; obtain ⟨cZ0_33, cZ1_33, cZ2_33⟩ := zad Z_13.out; obtain ⟨fZ0_33, fZ1_33, fZ2_33⟩ := zaq Z_13.out)
          | (go_at_call 97; have hc := mul_n (zal E1_9.out) (zal E3_0.out) (Nat.le_refl _) (Nat.le_refl _) (Nat.le_trans HE1.out (by omega)) (Nat.le_trans HE3.out (by omega)); (with_reducible refine hc.mono ?_); clear hc; rintro e w12 ⟨⟨v12, rfl, hv12⟩, hb⟩; have newM3 := Lib.hid (zaz hv12 sz_13.out); have Qa_14 := Lib.hid (IsQ.stb.next Qa_13.out (hb)); have Ra_14 := Lib.hid (Row.next Ra_13.out (hb)); have Qb_14 := Lib.hid (IsQ.stb.next Qb_13.out (hb)); have Rb_14 := Lib.hid (Row.next Rb_13.out (hb)); have Z_14 := Lib.hid (Row.next Z_13.out (hb)); have bw_14 := Lib.hid (zaa bw_13.out (hb)); have sz_14 := Lib.hid (zah sz_13.out (hb)); have B_14 := Lib.hid (Bru.next B_13.out (hb)); have G_12 := Lib.hid (IsK.stb.fresh G_11.out (hb)); have E1_10 := Lib.hid (IsK.stb.next E1_9.out (hb)); have E2_9 := Lib.hid (IsK.stb.next E2_8.out (hb)); have M1_7 := Lib.hid (IsK.stb.fresh M1_6.out (hb)); have M2_6 := Lib.hid (IsK.stb.fresh M2_5.out (hb)); have N_5 := Lib.hid (IsK.stb.fresh N_4.out (hb)); have C_4 := Lib.hid (IsK.stb.fresh C_3.out (hb)); have U_2 := Lib.hid (IsK.stb.fresh U_1.out (hb)); have E3_1 := Lib.hid (IsK.stb.next E3_0.out (hb)); clear Qa_13 Ra_13 Qb_13 Rb_13 Z_13 bw_13 sz_13 B_13 G_11 E1_9 E2_8 M1_6 M2_5 N_4 C_3 U_1 E3_0; have M3_0 := newM3; clear newM3; obtain ⟨P12, k12, rfl, _, _, _⟩ := id hv12; clear cRa0_31 cRa1_31 cRa2_31 cRb0_32 cRb1_32 cRb2_32 cZ0_33 cZ1_33 cZ2_33 fZ0_33 fZ1_33 fZ2_33; obtain ⟨cRa0_34, cRa1_34, cRa2_34⟩ := zad Ra_14.out; obtain ⟨cRb0_35, cRb1_35, cRb2_35⟩ := zad Rb_14.out; obtain ⟨cZ0_36, cZ1_36, cZ2_36⟩ := zad Z_14.out; obtain ⟨fZ0_36, fZ1_36, fZ2_36⟩ := zaq Z_14.out))
      go_wp2_with fail
      refine zbc Tryd.results89 rfl rfl (Row.put3 Z_14.out _ _ _) (retQ Hr.out bw_14.out (by omega) U_2.out M3_0.out (by omega) (by omega))
theorem plus_q {w : World} {va vb : Value} {qa qb qc : Rat} (ha : IsQ w (Old w) va qa) (hb : IsQ w (Old w) vb qb) (hB : Bru w) (hsa : Sz qa 100000) (hsb : Sz qb 100000) (hc : qc = qa + qb) : Calls Tryd.prog 89 #[va, vb] w (RetQ w qc) := by
  by_cases ha0 : qa = 0
  · exact plus_a0 ha hb hsb ha0 hc
  by_cases hb0 : qb = 0
  · exact plus_b0 ha hb hsa ha0 hb0 hc
  by_cases h1 : OneL qa qb
  · exact plus_w ha hb hB ha0 hb0 h1 hc
  · exact plus_g ha hb hB hsa hsb ha0 hb0 h1 hc
end Go.Proofs.YtjkgdggkgljdoaaDoor
