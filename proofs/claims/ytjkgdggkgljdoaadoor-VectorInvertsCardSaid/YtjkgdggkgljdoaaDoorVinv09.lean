/-
  Contracts of package long's Minus, Times and Order on rational numbers.
-/
import Derived.Test.YtjkgdggkgljdoaaDoorVinv08
import Derived.Test.YtjkgdggkgljdoaaDoorVinv07
import Derived.Maps.OwnIn
import Derived.Test.YtjkgdggkgljdoaaDoorVinv02
namespace Go.Proofs.YtjkgdggkgljdoaaDoor
open Go.RowKit
set_option linter.unusedVariables false
set_option maxHeartbeats 400000 in
theorem times_a0 {w : World} {va vb : Value} {qa qb qc : Rat} (ha : IsQ w (Old w) va qa) (hb : IsQ w (Old w) vb qb) (h0 : qa = 0) (hc : qc = qa * qb) : Calls Tryd.prog 91 #[va, vb] w (RetQ w qc) := by
  have HQa := Lib.hid ha
  obtain ⟨nega, Aa, cAa, Ba, cBa, rfl, Hnega, Hna, Hda⟩ := zam ha
  have HQb := Lib.hid hb
  obtain ⟨negb, Ab, cAb, Bb, cBb, rfl, Hnegb, Hnb, Hdb⟩ := zam hb
  have e0 : (((lim qa.num.natAbs).length : Int) == 0) = true := len_zero (by rw [h0]; rfl)
  have Hq : Hid (qc = 0) := by rw [Hid, hc, h0, Rat.zero_mul]
  clear h0
  clear ha hb hc
  obtain ⟨w0, hw0, hb0, ra, rb, rZ, Hz⟩ := boxes3 w #[.bool nega, .slice Aa (lim qa.num.natAbs).length cAa, .slice Ba (lim qa.den).length cBa] #[.bool negb, .slice Ab (lim qb.num.natAbs).length cAb, .slice Bb (lim qb.den).length cBb] #[.bool false, .slice none 0 0, .slice none 0 0] 50 50 50
  have Qa_0 := Lib.hid (IsQ.stb.next HQa.out hb0)
  have Ra_0 := Lib.hid (ra)
  have Qb_0 := Lib.hid (IsQ.stb.next HQb.out hb0)
  have Rb_0 := Lib.hid (rb)
  have Z_0 := Lib.hid (rZ)
  have bw_0 := Lib.hid (hb0)
  have sz_0 : Hid (w.heap.size + 3 ≤ w0.heap.size) := Lib.hid (Nat.le_of_eq Hz.out.symm)
  clear ra rb rZ hb0
  obtain ⟨cRa0_1, cRa1_1, cRa2_1⟩ := zad Ra_0.out
  obtain ⟨cRb0_2, cRb1_2, cRb2_2⟩ := zad Rb_0.out
  obtain ⟨cZ0_3, cZ1_3, cZ2_3⟩ := zad Z_0.out
  obtain ⟨fZ0_3, fZ1_3, fZ2_3⟩ := zaq Z_0.out
  go_enter Tryd.func91, Tryd.ntmps91
  go_wp2_with fail
  clear hw0
  refine (zero_q _).mono ?_
  rintro e w1 ⟨⟨v1, rfl, hv⟩, hb⟩
  have newV := Lib.hid (IsQ.stb.le hv sz_0.out)
  have Qa_1 := Lib.hid (IsQ.stb.next Qa_0.out (hb))
  have Ra_1 := Lib.hid (Row.next Ra_0.out (hb))
  have Qb_1 := Lib.hid (IsQ.stb.next Qb_0.out (hb))
  have Rb_1 := Lib.hid (Row.next Rb_0.out (hb))
  have Z_1 := Lib.hid (Row.next Z_0.out (hb))
  have bw_1 := Lib.hid (zaa bw_0.out (hb))
  have sz_1 := Lib.hid (zah sz_0.out (hb))
  clear Qa_0 Ra_0 Qb_0 Rb_0 Z_0 bw_0 sz_0
  have V_0 := newV
  clear newV
  obtain ⟨s1, P1, k1, O1, l1, rfl, _, _, _⟩ := zam hv
  clear cRa0_1 cRa1_1 cRa2_1 cRb0_2 cRb1_2 cRb2_2 cZ0_3 cZ1_3 cZ2_3 fZ0_3 fZ1_3 fZ2_3
  obtain ⟨cRa0_4, cRa1_4, cRa2_4⟩ := zad Ra_1.out
  obtain ⟨cRb0_5, cRb1_5, cRb2_5⟩ := zad Rb_1.out
  obtain ⟨cZ0_6, cZ1_6, cZ2_6⟩ := zad Z_1.out
  obtain ⟨fZ0_6, fZ1_6, fZ2_6⟩ := zaq Z_1.out
  go_wp2_with fail
  rw [Hq.out]
  refine zbc Tryd.results91 rfl rfl (Row.put3 Z_1.out _ _ _) (zfm V_0.out bw_1.out (by omega) (by omega))
set_option maxHeartbeats 400000 in
theorem times_b0 {w : World} {va vb : Value} {qa qb qc : Rat} (ha : IsQ w (Old w) va qa) (hb : IsQ w (Old w) vb qb) (ha0 : qa ≠ 0) (h0 : qb = 0) (hc : qc = qa * qb) : Calls Tryd.prog 91 #[va, vb] w (RetQ w qc) := by
  have HQa := Lib.hid ha
  obtain ⟨nega, Aa, cAa, Ba, cBa, rfl, Hnega, Hna, Hda⟩ := zam ha
  have HQb := Lib.hid hb
  obtain ⟨negb, Ab, cAb, Bb, cBb, rfl, Hnegb, Hnb, Hdb⟩ := zam hb
  have e0 : (((lim qa.num.natAbs).length : Int) == 0) = false := zeb (zfc ha0)
  have e1 : (((lim qb.num.natAbs).length : Int) == 0) = true := len_zero (by rw [h0]; rfl)
  have Hq : Hid (qc = 0) := by rw [Hid, hc, h0, Rat.mul_zero]
  clear h0 ha0
  clear ha hb hc
  obtain ⟨w0, hw0, hb0, ra, rb, rZ, Hz⟩ := boxes3 w #[.bool nega, .slice Aa (lim qa.num.natAbs).length cAa, .slice Ba (lim qa.den).length cBa] #[.bool negb, .slice Ab (lim qb.num.natAbs).length cAb, .slice Bb (lim qb.den).length cBb] #[.bool false, .slice none 0 0, .slice none 0 0] 50 50 50
  have Qa_0 := Lib.hid (IsQ.stb.next HQa.out hb0)
  have Ra_0 := Lib.hid (ra)
  have Qb_0 := Lib.hid (IsQ.stb.next HQb.out hb0)
  have Rb_0 := Lib.hid (rb)
  have Z_0 := Lib.hid (rZ)
  have bw_0 := Lib.hid (hb0)
  have sz_0 : Hid (w.heap.size + 3 ≤ w0.heap.size) := Lib.hid (Nat.le_of_eq Hz.out.symm)
  clear ra rb rZ hb0
  obtain ⟨cRa0_1, cRa1_1, cRa2_1⟩ := zad Ra_0.out
  obtain ⟨cRb0_2, cRb1_2, cRb2_2⟩ := zad Rb_0.out
  obtain ⟨cZ0_3, cZ1_3, cZ2_3⟩ := zad Z_0.out
  obtain ⟨fZ0_3, fZ1_3, fZ2_3⟩ := zaq Z_0.out
  go_enter Tryd.func91, Tryd.ntmps91
  go_wp2_with fail
  clear hw0
  refine (zero_q _).mono ?_
  rintro e w1 ⟨⟨v1, rfl, hv⟩, hb⟩
  have newV := Lib.hid (IsQ.stb.le hv sz_0.out)
  have Qa_1 := Lib.hid (IsQ.stb.next Qa_0.out (hb))
  have Ra_1 := Lib.hid (Row.next Ra_0.out (hb))
  have Qb_1 := Lib.hid (IsQ.stb.next Qb_0.out (hb))
  have Rb_1 := Lib.hid (Row.next Rb_0.out (hb))
  have Z_1 := Lib.hid (Row.next Z_0.out (hb))
  have bw_1 := Lib.hid (zaa bw_0.out (hb))
  have sz_1 := Lib.hid (zah sz_0.out (hb))
  clear Qa_0 Ra_0 Qb_0 Rb_0 Z_0 bw_0 sz_0
  have V_0 := newV
  clear newV
  obtain ⟨s1, P1, k1, O1, l1, rfl, _, _, _⟩ := zam hv
  clear cRa0_1 cRa1_1 cRa2_1 cRb0_2 cRb1_2 cRb2_2 cZ0_3 cZ1_3 cZ2_3 fZ0_3 fZ1_3 fZ2_3
  obtain ⟨cRa0_4, cRa1_4, cRa2_4⟩ := zad Ra_1.out
  obtain ⟨cRb0_5, cRb1_5, cRb2_5⟩ := zad Rb_1.out
  obtain ⟨cZ0_6, cZ1_6, cZ2_6⟩ := zad Z_1.out
  obtain ⟨fZ0_6, fZ1_6, fZ2_6⟩ := zaq Z_1.out
  go_wp2_with fail
  rw [Hq.out]
  refine zbc Tryd.results91 rfl rfl (Row.put3 Z_1.out _ _ _) (zfm V_0.out bw_1.out (by omega) (by omega))
set_option maxRecDepth 100000 in
set_option maxHeartbeats 1000000 in
theorem times_w {w : World} {va vb : Value} {qa qb qc : Rat} (ha : IsQ w (Old w) va qa) (hb : IsQ w (Old w) vb qb) (hB : Bru w) (ha0 : qa ≠ 0) (hb0 : qb ≠ 0) (h1 : OneL qa qb) (hc : qc = qa * qb) : Calls Tryd.prog 91 #[va, vb] w (RetQ w qc) := by
  have HQa := Lib.hid ha
  obtain ⟨nega, Aa, cAa, Ba, cBa, rfl, Hnega, Hna, Hda⟩ := zam ha
  have HQb := Lib.hid hb
  obtain ⟨negb, Ab, cAb, Bb, cBb, rfl, Hnegb, Hnb, Hdb⟩ := zam hb
  have e0 : (((lim qa.num.natAbs).length : Int) == 0) = false := zeb (zfc ha0)
  have e1 : (((lim qb.num.natAbs).length : Int) == 0) = false := zeb (zfc hb0)
  have H1 := Lib.hid h1
  obtain ⟨l1, l2, l3, l4⟩ := h1
  obtain ⟨b1, o1, rfl, u1, g1, s1⟩ := zfd Hna.out l1
  obtain ⟨b2, o2, rfl, u2, g2, s2⟩ := zfd Hda.out l2
  obtain ⟨b3, o3, rfl, u3, g3, s3⟩ := zfd Hnb.out l3
  obtain ⟨b4, o4, rfl, u4, g4, s4⟩ := zfd Hdb.out l4
  have Hov : Hid (mkRat (sg (nega != negb) (qa.num.natAbs * qb.num.natAbs)) (qa.den * qb.den) = qc) := by rw [Hid, hc]; exact times_over Hnega.out Hnegb.out
  have m1 : 0 < (lim qa.num.natAbs).length := by omega
  have m2 : 0 < (lim qa.den).length := by omega
  have m3 : 0 < (lim qb.num.natAbs).length := by omega
  have m4 : 0 < (lim qb.den).length := by omega
  clear ha hb ha0 hb0 hc Hna Hda Hnb Hdb Hnega Hnegb l1 l2 l3 l4
  obtain ⟨w0, hw0, hb0, ra, rb, rZ, Hz⟩ := boxes3 w #[.bool nega, .slice (some ⟨b1, o1, none⟩) (lim qa.num.natAbs).length cAa, .slice (some ⟨b2, o2, none⟩) (lim qa.den).length cBa] #[.bool negb, .slice (some ⟨b3, o3, none⟩) (lim qb.num.natAbs).length cAb, .slice (some ⟨b4, o4, none⟩) (lim qb.den).length cBb] #[.bool false, .slice none 0 0, .slice none 0 0] 50 50 50
  have v1 := zac hb0 u1
  have lt1 := World.block_lt_of_cell? w _ u1
  have v2 := zac hb0 u2
  have lt2 := World.block_lt_of_cell? w _ u2
  have v3 := zac hb0 u3
  have lt3 := World.block_lt_of_cell? w _ u3
  have v4 := zac hb0 u4
  have lt4 := World.block_lt_of_cell? w _ u4
  simp only at lt1 lt2 lt3 lt4
  clear u1 u2 u3 u4
  have Qa_0 := Lib.hid (IsQ.stb.next HQa.out hb0)
  have Qb_0 := Lib.hid (IsQ.stb.next HQb.out hb0)
  have Ra_0 := Lib.hid (ra)
  have Rb_0 := Lib.hid (rb)
  have Z_0 := Lib.hid (rZ)
  have bw_0 := Lib.hid (hb0)
  have sz_0 : Hid (w.heap.size + 3 ≤ w0.heap.size) := Lib.hid (Nat.le_of_eq Hz.out.symm)
  have B_0 := Lib.hid (Bru.next hB hb0)
  clear ra rb rZ hb0 hB
  obtain ⟨cRa0_1, cRa1_1, cRa2_1⟩ := zad Ra_0.out
  obtain ⟨cRb0_2, cRb1_2, cRb2_2⟩ := zad Rb_0.out
  obtain ⟨cZ0_3, cZ1_3, cZ2_3⟩ := zad Z_0.out
  obtain ⟨fZ0_3, fZ1_3, fZ2_3⟩ := zaq Z_0.out
  obtain ⟨x, hx⟩ : ∃ x : Int, x = (qa.num.natAbs : Int) * (qb.num.natAbs : Int) := ⟨_, rfl⟩
  obtain ⟨d, hd⟩ : ∃ d : Int, d = (qa.den : Int) * (qb.den : Int) := ⟨_, rfl⟩
  obtain ⟨x0, x9⟩ := prod_limb g1 s1 g3 s3
  obtain ⟨d0, d9⟩ := prod_limb g2 s2 g4 s4
  rw [← hx] at x0 x9
  rw [← hd] at d0 d9
  have Hq : Hid (qc = mkRat (sg (nega != negb) x.toNat) d.toNat) := by rw [Hid, ← Hov.out, show x.toNat = qa.num.natAbs * qb.num.natAbs from by rw [hx]; exact Int.toNat_natCast _, show d.toNat = qa.den * qb.den from by rw [hd]; exact Int.toNat_natCast _]
  have e2 : IntKind.u64.wrap (qa.num.natAbs : Int) = (qa.num.natAbs : Int) := IntWalk.u64_in _ (by omega)
  have e3 : IntKind.u64.wrap (qa.den : Int) = (qa.den : Int) := IntWalk.u64_in _ (by omega)
  have e4 : IntKind.u64.wrap (qb.num.natAbs : Int) = (qb.num.natAbs : Int) := IntWalk.u64_in _ (by omega)
  have e5 : IntKind.u64.wrap (qb.den : Int) = (qb.den : Int) := IntWalk.u64_in _ (by omega)
  have k1 : IntKind.u64.wrap ((qa.num.natAbs : Int) * (qb.num.natAbs : Int)) = x := by rw [hx]; exact IntWalk.u64_in _ (by rw [← hx]; omega)
  have k3 : IntKind.u64.wrap ((qa.den : Int) * (qb.den : Int)) = d := by rw [hd]; exact IntWalk.u64_in _ (by rw [← hd]; omega)
  obtain ⟨ng, hng⟩ : ∃ ng : Bool, (!(nega == negb)) = ng := ⟨_, rfl⟩
  rw [show (nega != negb) = ng from hng] at Hq
  clear hx hd
  go_enter Tryd.func91, Tryd.ntmps91
  go_wp2_with fail
  clear hw0
  refine (oneLimb_q Qa_0.out Qb_0.out).mono ?_
  rintro e w1 ⟨⟨b1', rfl, hb1⟩, hb⟩
  have Qa_1 := Lib.hid (IsQ.stb.next Qa_0.out (hb))
  have Qb_1 := Lib.hid (IsQ.stb.next Qb_0.out (hb))
  have Ra_1 := Lib.hid (Row.next Ra_0.out (hb))
  have Rb_1 := Lib.hid (Row.next Rb_0.out (hb))
  have Z_1 := Lib.hid (Row.next Z_0.out (hb))
  have bw_1 := Lib.hid (zaa bw_0.out (hb))
  have sz_1 := Lib.hid (zah sz_0.out (hb))
  have B_1 := Lib.hid (Bru.next B_0.out (hb))
  clear Qa_0 Qb_0 Ra_0 Rb_0 Z_0 bw_0 sz_0 B_0
  obtain rfl : b1' = true := hb1.2 H1.out
  clear hb1
  have v1_4 := zac (hb) v1
  have v2_5 := zac (hb) v2
  have v3_6 := zac (hb) v3
  have v4_7 := zac (hb) v4
  clear cRa0_1 cRa1_1 cRa2_1 cRb0_2 cRb1_2 cRb2_2 cZ0_3 cZ1_3 cZ2_3 fZ0_3 fZ1_3 fZ2_3 v1 v2 v3 v4
  obtain ⟨cRa0_8, cRa1_8, cRa2_8⟩ := zad Ra_1.out
  obtain ⟨cRb0_9, cRb1_9, cRb2_9⟩ := zad Rb_1.out
  obtain ⟨cZ0_10, cZ1_10, cZ2_10⟩ := zad Z_1.out
  obtain ⟨fZ0_10, fZ1_10, fZ2_10⟩ := zaq Z_1.out
  go_wp2_with fail
  clear hng
  have Qa_2 := Lib.hid (IsQ.stb.next Qa_1.out (zab _))
  have Qb_2 := Lib.hid (IsQ.stb.next Qb_1.out (zab _))
  have Ra_2 := Lib.hid (Row.next Ra_1.out (zab _))
  have Rb_2 := Lib.hid (Row.next Rb_1.out (zab _))
  have Z_2 := Lib.hid (Row.next Z_1.out (zab _))
  have bw_2 := Lib.hid (zaa bw_1.out (zab _))
  have sz_2 := Lib.hid (zah sz_1.out (zab _))
  have B_2 := Lib.hid (Bru.next B_1.out (zab _))
  clear Qa_1 Qb_1 Ra_1 Rb_1 Z_1 bw_1 sz_1 B_1
  go_region_held3 (fun w' => w'.cell? ⟨w.heap.size, 1, none⟩ = some (.slice (some ⟨b1, o1, none⟩) (lim qa.num.natAbs).length cAa) ∧ w'.cell? ⟨w.heap.size, 2, none⟩ = some (.slice (some ⟨b2, o2, none⟩) (lim qa.den).length cBa) ∧ w'.cell? ⟨w.heap.size + 1, 1, none⟩ = some (.slice (some ⟨b3, o3, none⟩) (lim qb.num.natAbs).length cAb) ∧ w'.cell? ⟨w.heap.size + 1, 2, none⟩ = some (.slice (some ⟨b4, o4, none⟩) (lim qb.den).length cBb) ∧ w'.cell? ⟨b1, o1, none⟩ = some (.int .u32 (qa.num.natAbs : Int)) ∧ w'.cell? ⟨b2, o2, none⟩ = some (.int .u32 (qa.den : Int)) ∧ w'.cell? ⟨b3, o3, none⟩ = some (.int .u32 (qb.num.natAbs : Int)) ∧ w'.cell? ⟨b4, o4, none⟩ = some (.int .u32 (qb.den : Int)))
    (first
      | exact ⟨cRa1_8, cRa2_8, cRb1_9, cRb2_9, v1_4, v2_5, v3_6, v4_7⟩
      | exact ⟨cRa1_15, cRa2_15, cRb1_16, cRb2_16, v1_11, v2_12, v3_13, v4_14⟩
      | exact ⟨zar cRa1_15 (by omega), zar cRa2_15 (by omega), zar cRb1_16 (by omega), zar cRb2_16 (by omega), zar v1_11 (by omega), zar v2_12 (by omega), zar v3_13 (by omega), zar v4_14 (by omega)⟩)
    (first
      | (go_at_call 124; have hc := words_i _ ng x d qc B_2.out (by omega) (by omega) (by omega) (by omega) Hq.out; (with_reducible refine hc.mono ?_); clear hc; rintro e w2 ⟨⟨v1', rfl, hv⟩, hb⟩; have newV := Lib.hid (IsQ.stb.le hv sz_2.out); have Qa_3 := Lib.hid (IsQ.stb.next Qa_2.out (hb)); have Qb_3 := Lib.hid (IsQ.stb.next Qb_2.out (hb)); have Ra_3 := Lib.hid (Row.next Ra_2.out (hb)); have Rb_3 := Lib.hid (Row.next Rb_2.out (hb)); have Z_3 := Lib.hid (Row.next Z_2.out (hb)); have bw_3 := Lib.hid (zaa bw_2.out (hb)); have sz_3 := Lib.hid (zah sz_2.out (hb)); have B_3 := Lib.hid (Bru.next B_2.out (hb)); clear Qa_2 Qb_2 Ra_2 Rb_2 Z_2 bw_2 sz_2 B_2; have V_0 := newV; clear newV; obtain ⟨s1, P1, k1, O1, l1, rfl, _, _, _⟩ := zam hv; have v1_11 := zac (hb) v1_4; have v2_12 := zac (hb) v2_5; have v3_13 := zac (hb) v3_6; have v4_14 := zac (hb) v4_7; clear cRa0_8 cRa1_8 cRa2_8 cRb0_9 cRb1_9 cRb2_9 cZ0_10 cZ1_10 cZ2_10 fZ0_10 fZ1_10 fZ2_10 v1_4 v2_5 v3_6 v4_7; obtain ⟨cRa0_15, cRa1_15, cRa2_15⟩ := zad Ra_3.out; obtain ⟨cRb0_16, cRb1_16, cRb2_16⟩ := zad Rb_3.out; obtain ⟨cZ0_17, cZ1_17, cZ2_17⟩ := zad Z_3.out; obtain ⟨fZ0_17, fZ1_17, fZ2_17⟩ := zaq Z_3.out))
  go_wp2_with fail
  refine zbc Tryd.results91 rfl rfl (Row.put3 Z_3.out _ _ _) (zfm V_0.out bw_3.out (by omega) (by omega))
set_option maxRecDepth 100000 in
set_option maxHeartbeats 2000000 in
theorem times_g {w : World} {va vb : Value} {qa qb qc : Rat} (ha : IsQ w (Old w) va qa) (hb : IsQ w (Old w) vb qb) (hB : Bru w) (hsa : Sz qa 100000) (hsb : Sz qb 100000) (ha0 : qa ≠ 0) (hb0 : qb ≠ 0) (h1 : ¬ OneL qa qb) (hc : qc = qa * qb) : Calls Tryd.prog 91 #[va, vb] w (RetQ w qc) := by
  have HQa := Lib.hid ha
  obtain ⟨nega, Aa, cAa, Ba, cBa, rfl, Hnega, Hna, Hda⟩ := zam ha
  have HQb := Lib.hid hb
  obtain ⟨negb, Ab, cAb, Bb, cBb, rfl, Hnegb, Hnb, Hdb⟩ := zam hb
  have e0 : (((lim qa.num.natAbs).length : Int) == 0) = false := zeb (zfc ha0)
  have e1 : (((lim qb.num.natAbs).length : Int) == 0) = false := zeb (zfc hb0)
  have H1 := Lib.hid h1
  have HB := Lib.hid hB
  have Hsa := Lib.hid hsa
  have Hsb := Lib.hid hsb
  obtain ⟨G, hG⟩ : ∃ G, G = Nat.gcd qa.num.natAbs qb.den := ⟨_, rfl⟩
  obtain ⟨H, hH⟩ : ∃ H, H = Nat.gcd qb.num.natAbs qa.den := ⟨_, rfl⟩
  obtain ⟨ng, hng⟩ : ∃ ng : Bool, (!(nega == negb)) = ng := ⟨_, rfl⟩
  have Hr : Hid (raw qc = ⟨ng, lim (qa.num.natAbs / G * (qb.num.natAbs / H)), lim (qa.den / H * (qb.den / G))⟩) := by rw [Hid, hc, ← hng, hG, hH]; exact times_raw Hnega.out Hnegb.out ha0 hb0
  have HG := Lib.hid hG
  have HH := Lib.hid hH
  have HGp : Hid (0 < G) := by rw [Hid, hG]; exact zeu _ qb.den_nz
  have HHp : Hid (0 < H) := by rw [Hid, hH]; exact zeu _ qa.den_nz
  have HGl : Hid ((lim G).length ≤ 100000) := by rw [Hid, hG]; exact gcd_le_r _ qb.den_nz hsb.2
  have HHl : Hid ((lim H).length ≤ 100000) := by rw [Hid, hH]; exact gcd_le_r _ qa.den_nz hsa.2
  have L1 : Hid ((lim (qa.num.natAbs / G)).length ≤ 100000) := zdt hsa.1
  have L2 : Hid ((lim (qb.num.natAbs / H)).length ≤ 100000) := zdt hsb.1
  have L3 : Hid ((lim (qa.den / H)).length ≤ 100000) := zdt hsa.2
  have L4 : Hid ((lim (qb.den / G)).length ≤ 100000) := zdt hsb.2
  clear ha hb ha0 hb0 hc h1 hB hsa hsb hG hH
  obtain ⟨w0, hw0, hb0, ra, rb, rZ, Hz⟩ := boxes3 w #[.bool nega, .slice Aa (lim qa.num.natAbs).length cAa, .slice Ba (lim qa.den).length cBa] #[.bool negb, .slice Ab (lim qb.num.natAbs).length cAb, .slice Bb (lim qb.den).length cBb] #[.bool false, .slice none 0 0, .slice none 0 0] 50 50 50
  have Qa_0 := Lib.hid (IsQ.stb.next HQa.out hb0)
  have Ra_0 := Lib.hid (ra)
  have Qb_0 := Lib.hid (IsQ.stb.next HQb.out hb0)
  have Rb_0 := Lib.hid (rb)
  have Z_0 := Lib.hid (rZ)
  have bw_0 := Lib.hid (hb0)
  have sz_0 : Hid (w.heap.size + 3 ≤ w0.heap.size) := Lib.hid (Nat.le_of_eq Hz.out.symm)
  clear ra rb rZ hb0
  obtain ⟨cRa0_1, cRa1_1, cRa2_1⟩ := zad Ra_0.out
  obtain ⟨cRb0_2, cRb1_2, cRb2_2⟩ := zad Rb_0.out
  obtain ⟨cZ0_3, cZ1_3, cZ2_3⟩ := zad Z_0.out
  obtain ⟨fZ0_3, fZ1_3, fZ2_3⟩ := zaq Z_0.out
  have B_0 := Lib.hid (Bru.next HB.out bw_0.out)
  go_enter Tryd.func91, Tryd.ntmps91
  go_wp2_with fail
  clear hw0
  refine (oneLimb_q Qa_0.out Qb_0.out).mono ?_
  rintro e w1 ⟨⟨b1, rfl, hb1⟩, hb⟩
  have Qa_1 := Lib.hid (IsQ.stb.next Qa_0.out (hb))
  have Ra_1 := Lib.hid (Row.next Ra_0.out (hb))
  have Qb_1 := Lib.hid (IsQ.stb.next Qb_0.out (hb))
  have Rb_1 := Lib.hid (Row.next Rb_0.out (hb))
  have Z_1 := Lib.hid (Row.next Z_0.out (hb))
  have bw_1 := Lib.hid (zaa bw_0.out (hb))
  have sz_1 := Lib.hid (zah sz_0.out (hb))
  have B_1 := Lib.hid (Bru.next B_0.out (hb))
  clear Qa_0 Ra_0 Qb_0 Rb_0 Z_0 bw_0 sz_0 B_0
  obtain rfl : b1 = false := by cases b1 with | false => rfl | true => exact absurd (hb1.1 rfl) H1.out
  clear hb1
  clear cRa0_1 cRa1_1 cRa2_1 cRb0_2 cRb1_2 cRb2_2 cZ0_3 cZ1_3 cZ2_3 fZ0_3 fZ1_3 fZ2_3
  obtain ⟨cRa0_4, cRa1_4, cRa2_4⟩ := zad Ra_1.out
  obtain ⟨cRb0_5, cRb1_5, cRb2_5⟩ := zad Rb_1.out
  obtain ⟨cZ0_6, cZ1_6, cZ2_6⟩ := zad Z_1.out
  obtain ⟨fZ0_6, fZ1_6, fZ2_6⟩ := zaq Z_1.out
  go_wp2_with fail
  clear hng
  have Qa_2 := Lib.hid (IsQ.stb.next Qa_1.out (zab _))
  have Ra_2 := Lib.hid (Row.next Ra_1.out (zab _))
  have Qb_2 := Lib.hid (IsQ.stb.next Qb_1.out (zab _))
  have Rb_2 := Lib.hid (Row.next Rb_1.out (zab _))
  have Z_2 := Lib.hid (Row.next Z_1.out (zab _))
  have bw_2 := Lib.hid (zaa bw_1.out (zab _))
  have sz_2 := Lib.hid (zah sz_1.out (zab _))
  have B_2 := Lib.hid (Bru.next B_1.out (zab _))
  clear Qa_1 Ra_1 Qb_1 Rb_1 Z_1 bw_1 sz_1 B_1
  go_region_held3 (fun w' => w'.cell? ⟨w.heap.size, 1, none⟩ = some (.slice Aa (lim qa.num.natAbs).length cAa) ∧ w'.cell? ⟨w.heap.size, 2, none⟩ = some (.slice Ba (lim qa.den).length cBa) ∧ w'.cell? ⟨w.heap.size + 1, 1, none⟩ = some (.slice Ab (lim qb.num.natAbs).length cAb) ∧ w'.cell? ⟨w.heap.size + 1, 2, none⟩ = some (.slice Bb (lim qb.den).length cBb))
    (first
      | exact ⟨cRa1_4, cRa2_4, cRb1_5, cRb2_5⟩
      | exact ⟨cRa1_7, cRa2_7, cRb1_8, cRb2_8⟩
      | exact ⟨cRa1_10, cRa2_10, cRb1_11, cRb2_11⟩)
    (first
      | (go_at_call 118; have hc := (show Calls Tryd.prog 118 #[.slice Aa (lim qa.num.natAbs).length cAa, .slice Bb (lim qb.den).length cBb] (World.drew w1) (fun e w' => (∃ v, e = .returned v ∧ IsN w' (World.heap (World.drew w1)).size w'.heap.size v G) ∧ Below (World.heap (World.drew w1)).size (World.drew w1) w') from by rw [HG.out]; exact gcd_n (zal (zdm Qa_2.out)) (zal (zcv Qb_2.out)) B_2.out (Nat.le_trans Hsa.out.1 (by omega)) (Nat.le_trans Hsb.out.2 (by omega))); (with_reducible refine hc.mono ?_); clear hc; rintro e w2 ⟨⟨v2, rfl, hv2⟩, hb⟩; have newG := Lib.hid (zaz hv2 sz_2.out); have Qa_3 := Lib.hid (IsQ.stb.next Qa_2.out (hb)); have Ra_3 := Lib.hid (Row.next Ra_2.out (hb)); have Qb_3 := Lib.hid (IsQ.stb.next Qb_2.out (hb)); have Rb_3 := Lib.hid (Row.next Rb_2.out (hb)); have Z_3 := Lib.hid (Row.next Z_2.out (hb)); have bw_3 := Lib.hid (zaa bw_2.out (hb)); have sz_3 := Lib.hid (zah sz_2.out (hb)); have B_3 := Lib.hid (Bru.next B_2.out (hb)); clear Qa_2 Ra_2 Qb_2 Rb_2 Z_2 bw_2 sz_2 B_2; have G_0 := newG; clear newG; obtain ⟨P2, k2, rfl, _, _, _⟩ := id hv2; clear cRa0_4 cRa1_4 cRa2_4 cRb0_5 cRb1_5 cRb2_5 cZ0_6 cZ1_6 cZ2_6 fZ0_6 fZ1_6 fZ2_6; obtain ⟨cRa0_7, cRa1_7, cRa2_7⟩ := zad Ra_3.out; obtain ⟨cRb0_8, cRb1_8, cRb2_8⟩ := zad Rb_3.out; obtain ⟨cZ0_9, cZ1_9, cZ2_9⟩ := zad Z_3.out; obtain ⟨fZ0_9, fZ1_9, fZ2_9⟩ := zaq Z_3.out)
      | (go_at_call 118; have hc := (show Calls Tryd.prog 118 #[.slice Ab (lim qb.num.natAbs).length cAb, .slice Ba (lim qa.den).length cBa] w2 (fun e w' => (∃ v, e = .returned v ∧ IsN w' (World.heap w2).size w'.heap.size v H) ∧ Below (World.heap w2).size w2 w') from by rw [HH.out]; exact gcd_n (zal (zdm Qb_3.out)) (zal (zcv Qa_3.out)) B_3.out (Nat.le_trans Hsb.out.1 (by omega)) (Nat.le_trans Hsa.out.2 (by omega))); (with_reducible refine hc.mono ?_); clear hc; rintro e w3 ⟨⟨v3, rfl, hv3⟩, hb⟩; have newH := Lib.hid (zaz hv3 sz_3.out); have Qa_4 := Lib.hid (IsQ.stb.next Qa_3.out (hb)); have Ra_4 := Lib.hid (Row.next Ra_3.out (hb)); have Qb_4 := Lib.hid (IsQ.stb.next Qb_3.out (hb)); have Rb_4 := Lib.hid (Row.next Rb_3.out (hb)); have Z_4 := Lib.hid (Row.next Z_3.out (hb)); have bw_4 := Lib.hid (zaa bw_3.out (hb)); have sz_4 := Lib.hid (zah sz_3.out (hb)); have B_4 := Lib.hid (Bru.next B_3.out (hb)); have G_1 := Lib.hid (IsK.stb.fresh G_0.out (hb)); clear Qa_3 Ra_3 Qb_3 Rb_3 Z_3 bw_3 sz_3 B_3 G_0; have H_0 := newH; clear newH; obtain ⟨P3, k3, rfl, _, _, _⟩ := id hv3; clear cRa0_7 cRa1_7 cRa2_7 cRb0_8 cRb1_8 cRb2_8 cZ0_9 cZ1_9 cZ2_9 fZ0_9 fZ1_9 fZ2_9; obtain ⟨cRa0_10, cRa1_10, cRa2_10⟩ := zad Ra_4.out; obtain ⟨cRb0_11, cRb1_11, cRb2_11⟩ := zad Rb_4.out; obtain ⟨cZ0_12, cZ1_12, cZ2_12⟩ := zad Z_4.out; obtain ⟨fZ0_12, fZ1_12, fZ2_12⟩ := zaq Z_4.out))
  go_wp2_with fail
  have Qa_5 := Lib.hid (IsQ.stb.next Qa_4.out (zab _))
  have Ra_5 := Lib.hid (Row.next Ra_4.out (zab _))
  have Qb_5 := Lib.hid (IsQ.stb.next Qb_4.out (zab _))
  have Rb_5 := Lib.hid (Row.next Rb_4.out (zab _))
  have Z_5 := Lib.hid (Row.next Z_4.out (zab _))
  have bw_5 := Lib.hid (zaa bw_4.out (zab _))
  have sz_5 := Lib.hid (zah sz_4.out (zab _))
  have B_5 := Lib.hid (Bru.next B_4.out (zab _))
  have G_2 := Lib.hid (IsK.stb.fresh G_1.out (zab _))
  have H_1 := Lib.hid (IsK.stb.fresh H_0.out (zab _))
  clear Qa_4 Ra_4 Qb_4 Rb_4 Z_4 bw_4 sz_4 B_4 G_1 H_0
  go_region_held3 (fun w' => w'.cell? ⟨w.heap.size, 1, none⟩ = some (.slice Aa (lim qa.num.natAbs).length cAa) ∧ w'.cell? ⟨w.heap.size + 1, 1, none⟩ = some (.slice Ab (lim qb.num.natAbs).length cAb))
    (first
      | exact ⟨cRa1_10, cRb1_11⟩
      | exact ⟨cRa1_13, cRb1_14⟩
      | exact ⟨cRa1_16, cRb1_17⟩
      | exact ⟨cRa1_19, cRb1_20⟩)
    (first
      | (go_at_call 119; have hc := zdd (zdm Qa_5.out) (zal (IsK.stb.old G_2.out)) (Nat.le_trans Hsa.out.1 (by omega)) (Nat.le_trans HGl.out (by omega)) HGp.out; (with_reducible refine hc.mono ?_); clear hc; rintro e w4 ⟨⟨v4, rfl, hv4⟩, hb⟩; have newE1 := Lib.hid (hv4); have Qa_6 := Lib.hid (IsQ.stb.next Qa_5.out (hb)); have Ra_6 := Lib.hid (Row.next Ra_5.out (hb)); have Qb_6 := Lib.hid (IsQ.stb.next Qb_5.out (hb)); have Rb_6 := Lib.hid (Row.next Rb_5.out (hb)); have Z_6 := Lib.hid (Row.next Z_5.out (hb)); have bw_6 := Lib.hid (zaa bw_5.out (hb)); have sz_6 := Lib.hid (zah sz_5.out (hb)); have B_6 := Lib.hid (Bru.next B_5.out (hb)); have G_3 := Lib.hid (IsK.stb.fresh G_2.out (hb)); have H_2 := Lib.hid (IsK.stb.fresh H_1.out (hb)); clear Qa_5 Ra_5 Qb_5 Rb_5 Z_5 bw_5 sz_5 B_5 G_2 H_1; have E1_0 := newE1; clear newE1; obtain ⟨P4, k4, rfl, _, _, _⟩ := id hv4; clear cRa0_10 cRa1_10 cRa2_10 cRb0_11 cRb1_11 cRb2_11 cZ0_12 cZ1_12 cZ2_12 fZ0_12 fZ1_12 fZ2_12; obtain ⟨cRa0_13, cRa1_13, cRa2_13⟩ := zad Ra_6.out; obtain ⟨cRb0_14, cRb1_14, cRb2_14⟩ := zad Rb_6.out; obtain ⟨cZ0_15, cZ1_15, cZ2_15⟩ := zad Z_6.out; obtain ⟨fZ0_15, fZ1_15, fZ2_15⟩ := zaq Z_6.out)
      | (go_at_call 119; have hc := zdd (zdm Qb_6.out) (zal (IsK.stb.old H_2.out)) (Nat.le_trans Hsb.out.1 (by omega)) (Nat.le_trans HHl.out (by omega)) HHp.out; (with_reducible refine hc.mono ?_); clear hc; rintro e w5 ⟨⟨v5, rfl, hv5⟩, hb⟩; have newE2 := Lib.hid (hv5); have Qa_7 := Lib.hid (IsQ.stb.next Qa_6.out (hb)); have Ra_7 := Lib.hid (Row.next Ra_6.out (hb)); have Qb_7 := Lib.hid (IsQ.stb.next Qb_6.out (hb)); have Rb_7 := Lib.hid (Row.next Rb_6.out (hb)); have Z_7 := Lib.hid (Row.next Z_6.out (hb)); have bw_7 := Lib.hid (zaa bw_6.out (hb)); have sz_7 := Lib.hid (zah sz_6.out (hb)); have B_7 := Lib.hid (Bru.next B_6.out (hb)); have G_4 := Lib.hid (IsK.stb.fresh G_3.out (hb)); have H_3 := Lib.hid (IsK.stb.fresh H_2.out (hb)); have E1_1 := Lib.hid (IsK.stb.next E1_0.out (hb)); clear Qa_6 Ra_6 Qb_6 Rb_6 Z_6 bw_6 sz_6 B_6 G_3 H_2 E1_0; have E2_0 := newE2; clear newE2; obtain ⟨P5, k5, rfl, _, _, _⟩ := id hv5; clear cRa0_13 cRa1_13 cRa2_13 cRb0_14 cRb1_14 cRb2_14 cZ0_15 cZ1_15 cZ2_15 fZ0_15 fZ1_15 fZ2_15; obtain ⟨cRa0_16, cRa1_16, cRa2_16⟩ := zad Ra_7.out; obtain ⟨cRb0_17, cRb1_17, cRb2_17⟩ := zad Rb_7.out; obtain ⟨cZ0_18, cZ1_18, cZ2_18⟩ := zad Z_7.out; obtain ⟨fZ0_18, fZ1_18, fZ2_18⟩ := zaq Z_7.out)
      | (go_at_call 97; have hc := mul_n (zal E1_1.out) (zal E2_0.out) (Nat.le_refl _) (Nat.le_refl _) (Nat.le_trans L1.out (by omega)) (Nat.le_trans L2.out (by omega)); (with_reducible refine hc.mono ?_); clear hc; rintro e w6 ⟨⟨v6, rfl, hv6⟩, hb⟩; have newM1 := Lib.hid (zaz hv6 sz_7.out); have Qa_8 := Lib.hid (IsQ.stb.next Qa_7.out (hb)); have Ra_8 := Lib.hid (Row.next Ra_7.out (hb)); have Qb_8 := Lib.hid (IsQ.stb.next Qb_7.out (hb)); have Rb_8 := Lib.hid (Row.next Rb_7.out (hb)); have Z_8 := Lib.hid (Row.next Z_7.out (hb)); have bw_8 := Lib.hid (zaa bw_7.out (hb)); have sz_8 := Lib.hid (zah sz_7.out (hb)); have B_8 := Lib.hid (Bru.next B_7.out (hb)); have G_5 := Lib.hid (IsK.stb.fresh G_4.out (hb)); have H_4 := Lib.hid (IsK.stb.fresh H_3.out (hb)); have E1_2 := Lib.hid (IsK.stb.next E1_1.out (hb)); have E2_1 := Lib.hid (IsK.stb.next E2_0.out (hb)); clear Qa_7 Ra_7 Qb_7 Rb_7 Z_7 bw_7 sz_7 B_7 G_4 H_3 E1_1 E2_0; have M1_0 := newM1; clear newM1; obtain ⟨P6, k6, rfl, _, _, _⟩ := id hv6; clear cRa0_16 cRa1_16 cRa2_16 cRb0_17 cRb1_17 cRb2_17 cZ0_18 cZ1_18 cZ2_18 fZ0_18 fZ1_18 fZ2_18; obtain ⟨cRa0_19, cRa1_19, cRa2_19⟩ := zad Ra_8.out; obtain ⟨cRb0_20, cRb1_20, cRb2_20⟩ := zad Rb_8.out; obtain ⟨cZ0_21, cZ1_21, cZ2_21⟩ := zad Z_8.out; obtain ⟨fZ0_21, fZ1_21, fZ2_21⟩ := zaq Z_8.out))
  go_wp2_with fail
  have Qa_9 := Lib.hid (IsQ.stb.next Qa_8.out (zab _))
  have Ra_9 := Lib.hid (Row.next Ra_8.out (zab _))
  have Qb_9 := Lib.hid (IsQ.stb.next Qb_8.out (zab _))
  have Rb_9 := Lib.hid (Row.next Rb_8.out (zab _))
  have Z_9 := Lib.hid (Row.next Z_8.out (zab _))
  have bw_9 := Lib.hid (zaa bw_8.out (zab _))
  have sz_9 := Lib.hid (zah sz_8.out (zab _))
  have B_9 := Lib.hid (Bru.next B_8.out (zab _))
  have G_6 := Lib.hid (IsK.stb.fresh G_5.out (zab _))
  have H_5 := Lib.hid (IsK.stb.fresh H_4.out (zab _))
  have E1_3 := Lib.hid (IsK.stb.next E1_2.out (zab _))
  have E2_2 := Lib.hid (IsK.stb.next E2_1.out (zab _))
  have M1_1 := Lib.hid (IsK.stb.fresh M1_0.out (zab _))
  clear Qa_8 Ra_8 Qb_8 Rb_8 Z_8 bw_8 sz_8 B_8 G_5 H_4 E1_2 E2_1 M1_0
  go_region_held3 (fun w' => w'.cell? ⟨w.heap.size, 2, none⟩ = some (.slice Ba (lim qa.den).length cBa) ∧ w'.cell? ⟨w.heap.size + 1, 2, none⟩ = some (.slice Bb (lim qb.den).length cBb))
    (first
      | exact ⟨cRa2_19, cRb2_20⟩
      | exact ⟨cRa2_22, cRb2_23⟩
      | exact ⟨cRa2_25, cRb2_26⟩
      | exact ⟨cRa2_28, cRb2_29⟩
      | exact ⟨zar cRa2_28 (by omega), zar cRb2_29 (by omega)⟩)
    (first
      | (go_at_call 119; have hc := zdd (zcv Qa_9.out) (zal (IsK.stb.old H_5.out)) (Nat.le_trans Hsa.out.2 (by omega)) (Nat.le_trans HHl.out (by omega)) HHp.out; (with_reducible refine hc.mono ?_); clear hc; rintro e w7 ⟨⟨v7, rfl, hv7⟩, hb⟩; have newE3 := Lib.hid (hv7); have Qa_10 := Lib.hid (IsQ.stb.next Qa_9.out (hb)); have Ra_10 := Lib.hid (Row.next Ra_9.out (hb)); have Qb_10 := Lib.hid (IsQ.stb.next Qb_9.out (hb)); have Rb_10 := Lib.hid (Row.next Rb_9.out (hb)); have Z_10 := Lib.hid (Row.next Z_9.out (hb)); have bw_10 := Lib.hid (zaa bw_9.out (hb)); have sz_10 := Lib.hid (zah sz_9.out (hb)); have B_10 := Lib.hid (Bru.next B_9.out (hb)); have G_7 := Lib.hid (IsK.stb.fresh G_6.out (hb)); have H_6 := Lib.hid (IsK.stb.fresh H_5.out (hb)); have E1_4 := Lib.hid (IsK.stb.next E1_3.out (hb)); have E2_3 := Lib.hid (IsK.stb.next E2_2.out (hb)); have M1_2 := Lib.hid (IsK.stb.fresh M1_1.out (hb)); clear Qa_9 Ra_9 Qb_9 Rb_9 Z_9 bw_9 sz_9 B_9 G_6 H_5 E1_3 E2_2 M1_1; have E3_0 := newE3; clear newE3; obtain ⟨P7, k7, rfl, _, _, _⟩ := id hv7; clear cRa0_19 cRa1_19 cRa2_19 cRb0_20 cRb1_20 cRb2_20 cZ0_21 cZ1_21 cZ2_21 fZ0_21 fZ1_21 fZ2_21; obtain ⟨cRa0_22, cRa1_22, cRa2_22⟩ := zad Ra_10.out; obtain ⟨cRb0_23, cRb1_23, cRb2_23⟩ := zad Rb_10.out; obtain ⟨cZ0_24, cZ1_24, cZ2_24⟩ := zad Z_10.out; obtain ⟨fZ0_24, fZ1_24, fZ2_24⟩ := zaq Z_10.out)
      | (go_at_call 119; have hc := zdd (zcv Qb_10.out) (zal (IsK.stb.old G_7.out)) (Nat.le_trans Hsb.out.2 (by omega)) (Nat.le_trans HGl.out (by omega)) HGp.out; (with_reducible refine hc.mono ?_); clear hc; rintro e w8 ⟨⟨v8, rfl, hv8⟩, hb⟩; have newE4 := Lib.hid (hv8); have Qa_11 := Lib.hid (IsQ.stb.next Qa_10.out (hb)); have Ra_11 := Lib.hid (Row.next Ra_10.out (hb)); have Qb_11 := Lib.hid (IsQ.stb.next Qb_10.out (hb)); have Rb_11 := Lib.hid (Row.next Rb_10.out (hb)); have Z_11 := Lib.hid (Row.next Z_10.out (hb)); have bw_11 := Lib.hid (zaa bw_10.out (hb)); have sz_11 := Lib.hid (zah sz_10.out (hb)); have B_11 := Lib.hid (Bru.next B_10.out (hb)); have G_8 := Lib.hid (IsK.stb.fresh G_7.out (hb)); have H_7 := Lib.hid (IsK.stb.fresh H_6.out (hb)); have E1_5 := Lib.hid (IsK.stb.next E1_4.out (hb)); have E2_4 := Lib.hid (IsK.stb.next E2_3.out (hb)); have M1_3 := Lib.hid (IsK.stb.fresh M1_2.out (hb)); have E3_1 := Lib.hid (IsK.stb.next E3_0.out (hb)); clear Qa_10 Ra_10 Qb_10 Rb_10 Z_10 bw_10 sz_10 B_10 G_7 H_6 E1_4 E2_3 M1_2 E3_0; have E4_0 := newE4; clear newE4; obtain ⟨P8, k8, rfl, _, _, _⟩ := id hv8; clear cRa0_22 cRa1_22 cRa2_22 cRb0_23 cRb1_23 cRb2_23 cZ0_24 cZ1_24 cZ2_24 fZ0_24 fZ1_24 fZ2_24; obtain ⟨cRa0_25, cRa1_25, cRa2_25⟩ := zad Ra_11.out; obtain ⟨cRb0_26, cRb1_26, cRb2_26⟩ := zad Rb_11.out; obtain ⟨cZ0_27, cZ1_27, cZ2_27⟩ := zad Z_11.out; obtain ⟨fZ0_27, fZ1_27, fZ2_27⟩ := zaq Z_11.out)
      | (go_at_call 97; have hc := mul_n (zal E3_1.out) (zal E4_0.out) (Nat.le_refl _) (Nat.le_refl _) (Nat.le_trans L3.out (by omega)) (Nat.le_trans L4.out (by omega)); (with_reducible refine hc.mono ?_); clear hc; rintro e w9 ⟨⟨v9, rfl, hv9⟩, hb⟩; have newM2 := Lib.hid (zaz hv9 sz_11.out); have Qa_12 := Lib.hid (IsQ.stb.next Qa_11.out (hb)); have Ra_12 := Lib.hid (Row.next Ra_11.out (hb)); have Qb_12 := Lib.hid (IsQ.stb.next Qb_11.out (hb)); have Rb_12 := Lib.hid (Row.next Rb_11.out (hb)); have Z_12 := Lib.hid (Row.next Z_11.out (hb)); have bw_12 := Lib.hid (zaa bw_11.out (hb)); have sz_12 := Lib.hid (zah sz_11.out (hb)); have B_12 := Lib.hid (Bru.next B_11.out (hb)); have G_9 := Lib.hid (IsK.stb.fresh G_8.out (hb)); have H_8 := Lib.hid (IsK.stb.fresh H_7.out (hb)); have E1_6 := Lib.hid (IsK.stb.next E1_5.out (hb)); have E2_5 := Lib.hid (IsK.stb.next E2_4.out (hb)); have M1_4 := Lib.hid (IsK.stb.fresh M1_3.out (hb)); have E3_2 := Lib.hid (IsK.stb.next E3_1.out (hb)); have E4_1 := Lib.hid (IsK.stb.next E4_0.out (hb)); clear Qa_11 Ra_11 Qb_11 Rb_11 Z_11 bw_11 sz_11 B_11 G_8 H_7 E1_5 E2_4 M1_3 E3_1 E4_0; have M2_0 := newM2; clear newM2; obtain ⟨P9, k9, rfl, _, _, _⟩ := id hv9; clear cRa0_25 cRa1_25 cRa2_25 cRb0_26 cRb1_26 cRb2_26 cZ0_27 cZ1_27 cZ2_27 fZ0_27 fZ1_27 fZ2_27; obtain ⟨cRa0_28, cRa1_28, cRa2_28⟩ := zad Ra_12.out; obtain ⟨cRb0_29, cRb1_29, cRb2_29⟩ := zad Rb_12.out; obtain ⟨cZ0_30, cZ1_30, cZ2_30⟩ := zad Z_12.out; obtain ⟨fZ0_30, fZ1_30, fZ2_30⟩ := zaq Z_12.out))
  go_wp2_with fail
  refine zbc Tryd.results91 rfl rfl (Row.put3 Z_12.out _ _ _) (retQ Hr.out bw_12.out (by omega) M1_4.out M2_0.out (by omega) (by omega))
theorem times_q {w : World} {va vb : Value} {qa qb qc : Rat} (ha : IsQ w (Old w) va qa) (hb : IsQ w (Old w) vb qb) (hB : Bru w) (hsa : Sz qa 100000) (hsb : Sz qb 100000) (hc : qc = qa * qb) : Calls Tryd.prog 91 #[va, vb] w (RetQ w qc) := by
  by_cases ha0 : qa = 0
  · exact times_a0 ha hb ha0 hc
  by_cases hb0 : qb = 0
  · exact times_b0 ha hb ha0 hb0 hc
  by_cases h1 : OneL qa qb
  · exact times_w ha hb hB ha0 hb0 h1 hc
  · exact times_g ha hb hB hsa hsb ha0 hb0 h1 hc
end Go.Proofs.YtjkgdggkgljdoaaDoor
namespace Go.Proofs.YtjkgdggkgljdoaaDoor
open Go.RowKit Go.Shelf
attribute [local go_sem] Oper.semAt_some
set_option linter.unusedVariables false
def PairOk (w : World) (p : (Q3 × Rat) × (Q3 × Rat)) : Prop := IsQ w (Old w) (q3 p.1.1) p.1.2 ∧ IsQ w (Old w) (q3 p.2.1) p.2.2 ∧ Sz p.1.2 1024 ∧ Sz p.2.2 1024
abbrev Pair (w : World) := {p : (Q3 × Rat) × (Q3 × Rat) // PairOk w p}
def Pair.qs {w : World} (x : Pair w) : Rat × Rat := (x.1.1.2, x.1.2.2)
theorem cells_of_cell {w : World} {b o : Nat} {v : Value} (h : w.cell? ⟨b, o, none⟩ = some v) : ∃ obj, w.heap[b]? = some obj ∧ obj.isCells = true := by
  unfold World.cell? at h
  cases hb : w.heap[b]? with
  | none => simp [hb] at h
  | some obj => cases obj with
    | cells c t f => exact ⟨_, rfl, rfl⟩
    | _ => simp [hb] at h
def CellsIn (w : World) (S : Nat → Prop) : Nat → Prop := fun b => S b ∧ ∃ obj, w.heap[b]? = some obj ∧ obj.isCells = true
theorem IsK.cells {k : IntKind} {w : World} {S : Nat → Prop} {v : Value} {l : List Nat} (h : IsK k w S v l) : IsK k w (CellsIn w S) v l := by
  obtain ⟨A, c, hv, h1, h2, h3⟩ := h
  refine ⟨A, c, hv, h1, h2, fun hne => ?_⟩
  obtain ⟨b, off, hA, hS, hc⟩ := h3 hne
  refine ⟨b, off, hA, ⟨hS, ?_⟩, hc⟩
  cases hx : cel k l with
  | nil => exact absurd hx hne
  | cons u t => exact cells_of_cell (hc 0 u (by rw [hx]; rfl))
theorem IsQ.cells {w : World} {S : Nat → Prop} {v : Value} {q : Rat} (h : IsQ w S v q) : IsQ w (CellsIn w S) v q := by
  obtain ⟨A, c, B, d, hv, h1, h2⟩ := h
  exact ⟨A, c, B, d, hv, h1.cells, h2.cells⟩
theorem IsQ.others {X Y : World} {row : Option Nat} {S : Nat → Prop} {v : Value} {q : Rat} (h : IsQ X S v q) (hg : X.grownBy Y row) (hrow : ∀ r, row = some r → ∃ o, X.heap[r]? = some o ∧ o.isCells = false) : IsQ Y S v q := by
  refine IsQ.stb.to h.cells fun b hb => ⟨hb.1, fun o => ?_⟩
  obtain ⟨obj, ho, hc⟩ := hb.2
  refine World.cell?_of_block (hg.block b (Array.getElem?_eq_some_iff.1 ho).1 fun e => ?_)
  obtain ⟨o2, ho2, hc2⟩ := hrow b e.symm
  rw [ho] at ho2
  cases ho2
  rw [hc] at hc2
  cases hc2
theorem Row.others {X Y : World} {row : Option Nat} {g : Nat} {t : TypeId} {xs : List Value} (h : Row X g t xs) (hg : X.grownBy Y row) (hrow : ∀ r, row = some r → ∃ o, X.heap[r]? = some o ∧ o.isCells = false) : Row Y g t xs := by
  refine h.grown hg fun e => ?_
  obtain ⟨o2, ho2, hc2⟩ := hrow g e.symm
  rw [show X.heap[g]? = _ from h] at ho2
  cases ho2
  cases hc2
end Go.Proofs.YtjkgdggkgljdoaaDoor
namespace Go.Proofs.YtjkgdggkgljdoaaDoor
open Go.RowKit
set_option linter.unusedVariables false
theorem zbi (l : List Rat) : (rawV l).length = l.length := List.length_map _
theorem zbs (m : List (List Rat)) : (rawM m).length = m.length := List.length_map _
theorem sumP_any {n : Nat} {l : List (Rat × Rat)} (hl : l.length ≤ 40) (h : ∀ p ∈ l, Sz p.1 1024 ∧ Sz p.2 1024) : Sz (sumP l) 100000 := (sumP_sz h).le (by have := Nat.mul_le_mul_right (2 * 1024 + 1) hl; omega)
theorem same_grown {w w' : World} {g : Nat} {S : Nat → Prop} (hg : w.grownBy w' (some g)) (hS : ∀ b, S b → b < w.heap.size ∧ b ≠ g) : Same S S w w' := fun b hb => ⟨hb, fun o => World.cell?_of_block (hg.block b (hS b hb).1 (fun e => (hS b hb).2 (by cases e; rfl)))⟩
theorem zbe {w w' : World} {row : Option Nat} (hb : Below w.heap.size w w') : w.grownBy w' row := ⟨hb.os, hb.tape, hb.output, hb.size, fun k hk _ => hb.block k hk⟩
theorem zcl (w : World) (g o : Nat) (u : Value) : w.grownBy (w.setCell ⟨g, o, none⟩ u) (some g) :=
  ⟨rfl, rfl, rfl, by simp [World.setCell], fun k _ hk => Below.heap_setCell w ⟨g, o, none⟩ u k (fun e => hk (by rw [e]))⟩
theorem zft {a b c : World} {row : Option Nat} (h : a.grownBy b row) (hb : Below a.heap.size b c) : a.grownBy c row := ⟨hb.os.trans h.os, hb.tape.trans h.tape, hb.output.trans h.output, Nat.le_trans h.size hb.size, fun k hk hr => (hb.block k hk).trans (h.block k hk hr)⟩
theorem OwnS.slice {α : Type} {n : Nat} {t : TypeId} {R : World → (Nat → Prop) → Value → α → Prop} {w : World} {base : Nat} {S : Nat → Prop} {v : Value} {l : List α} (h : OwnS n t R w base S v l) : ∃ A c, v = .slice A l.length c := by
  obtain ⟨es, h1, _⟩ := h
  rcases h1.2 with ⟨h2, h3⟩ | ⟨g, cap, cur, h2, _⟩
  · exact ⟨none, 0, by rw [h2, h3]⟩
  · exact ⟨_, _, h2⟩
theorem OwnS.stepG {α : Type} {n : Nat} {t : TypeId} {R : World → (Nat → Prop) → Value → α → Prop} (hR : Stb R) {w w' : World} {base g : Nat} {S : Nat → Prop} {v : Value} {l : List α} (h : OwnS n t R w base S v l)
    (hb : w.grownBy w' (some g)) (hg : g < base) (hS : ∀ b, S b → b ≠ g) : OwnS n t R w' base S v l := by
  obtain ⟨es, h1, h2, h3, h4⟩ := h
  refine ⟨es, h1.kept hb (.inr fun e => by have := (h1.lt g e).1; omega), h2, h3.imp fun x y h => hR.to h (same_grown hb fun b hb' => ⟨(h4 b hb').1, hS b hb'⟩), fun b hb' => ⟨Nat.lt_of_lt_of_le (h4 b hb').1 hb.size, (h4 b hb').2⟩⟩
theorem vec_info : (Tryd.prog.info? 29).map (fun i => (i.zero, i.size, i.bytes)) = some (some (.slice none 0 0), 1, 24) := by kernel_rfl
theorem elV : ElN Tryd.prog 27 29 1 24 :=
  ⟨Tryd.underlying27, by obtain ⟨i, h1, h2, h3, h4⟩ := info_parts vec_info; exact ⟨i, _, h1, h2, h3, h4, rfl⟩, by omega⟩
theorem isS_row {α : Type} {n : Nat} {R : World → (Nat → Prop) → Value → α → Prop} {w : World} {S : Nat → Prop} {g : Nat} {t : TypeId} {es : List Value} {l : List α} (h : Row w g t (cellsOf es)) (hg : S g) (hw : Wid n es) (ha : All2 (R w S) es l) (hl : l.length ≤ 9223372036854775807) :
    IsS n R w S (.slice (some ⟨g, 0, none⟩) l.length l.length) l := by
  refine ⟨_, _, es, rfl, Nat.le_refl _, by unfold maxLen; omega, fun _ => ⟨g, 0, rfl, hg, fun i u hu => ?_⟩, hw, ha⟩
  rw [Nat.zero_add]
  exact h.cell i |>.trans (by simpa using hu)
theorem all2_one {α β : Type} {R : α → β → Prop} {x : α} {y : β} (h : R x y) : All2 R [x] [y] := All2.snoc All2.nil h
theorem all2_two {α β : Type} {R : α → β → Prop} {x u : α} {y v : β} (h : R x y) (h2 : R u v) : All2 R [x, u] [y, v] := All2.snoc (a := [x]) (b := [y]) (all2_one h) h2
theorem isM_row2 {w : World} {g : Nat} {t : TypeId} {v u : Value} {l m : List Raw} (h : Row w g t [v, u]) (hv : IsV w (Old w) v l) (hu : IsV w (Old w) u m) : IsM w (Old w) (.slice (some ⟨g, 0, none⟩) 2 2) [l, m] := by
  obtain ⟨A, c, rfl, _⟩ := zcm hv
  obtain ⟨B, d, rfl, _⟩ := zcm hu
  exact isS_row (es := [.slice A l.length c, .slice B m.length d]) (l := [l, m]) h h.lt (by intro u hu; simp at hu; rcases hu with rfl | rfl <;> rfl) (all2_two hv hu) (by simp)
def zbz (d : Nat) (l : List Int) : List Rat := l.map fun x => zdj x d
theorem overQ_len (d : Nat) (l : List Int) : (zbz d l).length = l.length := List.length_map _
theorem overQ_snoc {d : Nat} {l : List Int} {k : Nat} {x : Int} (h : l[k]? = some x) : (zbz d l).take (k + 1) = (zbz d l).take k ++ [zdj x d] := by
  refine zda ?_
  unfold zbz
  rw [List.getElem?_map, h]
  rfl
def intV (l : List Int) : List Value := l.map fun x => .int .i64 x
theorem over_sz {d : Nat} {l : List Int} (h : ∀ x ∈ l, x.natAbs ≤ 1000000) (h1 : d ≤ 1000000) (h0 : d ≠ 0) : ∀ q ∈ zbz d l, Sz q 3 := by
  intro q hq
  obtain ⟨x, hx, rfl⟩ := List.mem_map.1 hq
  exact quot_sz (by have := h x hx; omega) (by omega) h0
set_option maxRecDepth 100000 in
set_option maxHeartbeats 2000000 in
theorem whole3_l {w : World} {g c : Nat} {t : TypeId} {l : List Int} (hr : Row w g t (intV l)) (hl : l.length ≤ 40) (hx : ∀ x ∈ l, x.natAbs ≤ 1000000) :
    Calls Tryd.prog 43 #[.slice (some ⟨g, 0, none⟩) l.length c] w fun e w' => (∃ v, e = .returned v ∧ IsV w' (New w.heap.size w') v (rawV (zbz 1 l))) ∧ Below w.heap.size w w' := by
  have HR := Lib.hid hr
  have Hx := Lib.hid hx
  obtain ⟨n, hn⟩ : ∃ n, n = l.length := ⟨_, rfl⟩
  have Hn := Lib.hid hn
  rw [← hn] at hl ⊢
  have hgl : g < w.heap.size := hr.lt
  clear hr hx hn
  go_enter Tryd.func43, Tryd.ntmps43
  go_wp2_with fail
  go_loopw [3, 4] (fun v i wr => ∃ (k : Nat) (S : Nat → Prop), k ≤ n ∧ i = .int .i64 (k : Int) ∧ Below w.heap.size w wr ∧ OwnS 3 50 IsR wr w.heap.size S v (rawV ((zbz 1 l).take k)) ∧ Hid (∀ b, S b → w.heap.size ≤ b)) (fun _ i _ => n - (intOf i).toNat)
  case atStart => exact ⟨0, fun _ => False, Nat.zero_le _, rfl, Below.refl _ _, by simpa [rawV] using (OwnS.nil (fun b h => False.elim h) : OwnS 3 50 IsR w w.heap.size (fun _ => False) _ _), fun _ h => False.elim h⟩
  case round =>
    obtain ⟨k, S, hk, rfl, hbw, hown, hS⟩ := hrel
    have Hbw := Lib.hid hbw
    have HS := Lib.hid hS.out
    have Hown := Lib.hid hown
    have hsz := hbw.size
    clear hown hS
    rcases Nat.lt_or_ge k n with hlt | hge
    · obtain ⟨x, hxk⟩ := some_at (l := l) (j := k) (by rw [← Hn.out]; exact hlt)
      have hc : wr.cell? ⟨g, k, none⟩ = some (.int .i64 x) := ((HR.out.next hbw).cell k).trans (by unfold intV; rw [List.getElem?_map, hxk]; rfl)
      have Hxk := Lib.hid hxk
      have hx9 := Hx.out x (List.mem_of_getElem? hxk)
      clear hxk hbw
      go_wp2_with fail
      refine (ratof_q (a := x) (b := 1) (by omega) (by omega) (by omega)).mono ?_
      rintro e w2 ⟨⟨v2, rfl, hv2⟩, hb⟩
      have Hb2 := Lib.hid hb
      have Hv2 := Lib.hid hv2
      have Hbs := Lib.hid (zaa Hbw.out hb)
      have hbase : w.heap.size ≤ w2.heap.size := Hbs.out.size
      obtain ⟨s2, P2, k2, O2, l2, rfl, _, _, _⟩ := zam hv2
      have hown2 := OwnS.step IsR.stb (T := fun b => S b ∨ (wr.heap.size ≤ b ∧ b < w2.heap.size)) Hown.out Hb2.out (fun b h => .inl h) (fun b h => h)
      have hel2 := IsQ.stb.to Hv2.out (zay (T := fun b => S b ∨ (wr.heap.size ≤ b ∧ b < w2.heap.size)) fun b h => .inr h)
      clear hb hv2 hc
      go_wp2_with (at_builtin; refine zcp elR rfl _ _ rfl IsR.stb rfl rfl rfl hown2 hel2 rfl (by intro u hu; simp [Value.cells] at hu; rcases hu with rfl | rfl | rfl <;> rfl) (by have h1 := List.length_take_le k (zbz 1 l); rw [zbi]; omega) hbase ?_; intro v3 w3 hown3 hb3 hz3)
      go_roundw
      case rel =>
        refine ⟨k + 1, fun b => S b ∨ (wr.heap.size ≤ b ∧ b < w2.heap.size), by omega, by go_num, Hbs.out.trans hb3, ?_, fun b hb => by rcases hb with hb | hb; exact HS.out b hb; omega⟩
        rw [overQ_snoc Hxk.out, rawV, List.map_append]
        exact hown3
      case measure => simp [intOf]; omega
    · obtain rfl : k = n := by omega
      clear hbw
      go_wp2_with fail
      go_ret
      refine ⟨⟨_, rfl, ?_⟩, Hbw.out⟩
      have h1 := OwnS.isS IsR.stb (T := New w.heap.size wr) Hown.out (fun b hb => ⟨HS.out b hb, by obtain ⟨_, _, _, _, h4⟩ := Hown.out; exact (h4 b hb).1⟩) (fun b h1 h2 => ⟨h1, h2⟩)
      rw [List.take_of_length_le (by rw [overQ_len, ← Hn.out]; exact Nat.le_refl _)] at h1
      exact h1
set_option maxRecDepth 100000 in
set_option maxHeartbeats 2000000 in
theorem halves3_l {w : World} {g c : Nat} {t : TypeId} {l : List Int} (hr : Row w g t (intV l)) (hl : l.length ≤ 40) (hx : ∀ x ∈ l, x.natAbs ≤ 1000000) :
    Calls Tryd.prog 44 #[.slice (some ⟨g, 0, none⟩) l.length c] w fun e w' => (∃ v, e = .returned v ∧ IsV w' (New w.heap.size w') v (rawV (zbz 2 l))) ∧ Below w.heap.size w w' := by
  have HR := Lib.hid hr
  have Hx := Lib.hid hx
  obtain ⟨n, hn⟩ : ∃ n, n = l.length := ⟨_, rfl⟩
  have Hn := Lib.hid hn
  rw [← hn] at hl ⊢
  have hgl : g < w.heap.size := hr.lt
  clear hr hx hn
  go_enter Tryd.func44, Tryd.ntmps44
  go_wp2_with fail
  go_loopw [3, 4] (fun v i wr => ∃ (k : Nat) (S : Nat → Prop), k ≤ n ∧ i = .int .i64 (k : Int) ∧ Below w.heap.size w wr ∧ OwnS 3 50 IsR wr w.heap.size S v (rawV ((zbz 2 l).take k)) ∧ Hid (∀ b, S b → w.heap.size ≤ b)) (fun _ i _ => n - (intOf i).toNat)
  case atStart => exact ⟨0, fun _ => False, Nat.zero_le _, rfl, Below.refl _ _, by simpa [rawV] using (OwnS.nil (fun b h => False.elim h) : OwnS 3 50 IsR w w.heap.size (fun _ => False) _ _), fun _ h => False.elim h⟩
  case round =>
    obtain ⟨k, S, hk, rfl, hbw, hown, hS⟩ := hrel
    have Hbw := Lib.hid hbw
    have HS := Lib.hid hS.out
    have Hown := Lib.hid hown
    have hsz := hbw.size
    clear hown hS
    rcases Nat.lt_or_ge k n with hlt | hge
    · obtain ⟨x, hxk⟩ := some_at (l := l) (j := k) (by rw [← Hn.out]; exact hlt)
      have hc : wr.cell? ⟨g, k, none⟩ = some (.int .i64 x) := ((HR.out.next hbw).cell k).trans (by unfold intV; rw [List.getElem?_map, hxk]; rfl)
      have Hxk := Lib.hid hxk
      have hx9 := Hx.out x (List.mem_of_getElem? hxk)
      clear hxk hbw
      go_wp2_with fail
      refine (ratof_q (a := x) (b := 2) (by omega) (by omega) (by omega)).mono ?_
      rintro e w2 ⟨⟨v2, rfl, hv2⟩, hb⟩
      have Hb2 := Lib.hid hb
      have Hv2 := Lib.hid hv2
      have Hbs := Lib.hid (zaa Hbw.out hb)
      have hbase : w.heap.size ≤ w2.heap.size := Hbs.out.size
      obtain ⟨s2, P2, k2, O2, l2, rfl, _, _, _⟩ := zam hv2
      have hown2 := OwnS.step IsR.stb (T := fun b => S b ∨ (wr.heap.size ≤ b ∧ b < w2.heap.size)) Hown.out Hb2.out (fun b h => .inl h) (fun b h => h)
      have hel2 := IsQ.stb.to Hv2.out (zay (T := fun b => S b ∨ (wr.heap.size ≤ b ∧ b < w2.heap.size)) fun b h => .inr h)
      clear hb hv2 hc
      go_wp2_with (at_builtin; refine zcp elR rfl _ _ rfl IsR.stb rfl rfl rfl hown2 hel2 rfl (by intro u hu; simp [Value.cells] at hu; rcases hu with rfl | rfl | rfl <;> rfl) (by have h1 := List.length_take_le k (zbz 2 l); rw [zbi]; omega) hbase ?_; intro v3 w3 hown3 hb3 hz3)
      go_roundw
      case rel =>
        refine ⟨k + 1, fun b => S b ∨ (wr.heap.size ≤ b ∧ b < w2.heap.size), by omega, by go_num, Hbs.out.trans hb3, ?_, fun b hb => by rcases hb with hb | hb; exact HS.out b hb; omega⟩
        rw [overQ_snoc Hxk.out, rawV, List.map_append]
        exact hown3
      case measure => simp [intOf]; omega
    · obtain rfl : k = n := by omega
      clear hbw
      go_wp2_with fail
      go_ret
      refine ⟨⟨_, rfl, ?_⟩, Hbw.out⟩
      have h1 := OwnS.isS IsR.stb (T := New w.heap.size wr) Hown.out (fun b hb => ⟨HS.out b hb, by obtain ⟨_, _, _, _, h4⟩ := Hown.out; exact (h4 b hb).1⟩) (fun b h1 h2 => ⟨h1, h2⟩)
      rw [List.take_of_length_le (by rw [overQ_len, ← Hn.out]; exact Nat.le_refl _)] at h1
      exact h1
def aQ : List (List Rat) := [zbz 1 [1, 2], zbz 1 [3, 4]]
set_option maxRecDepth 100000 in
set_option maxHeartbeats 2000000 in
theorem a3_l (w : World) : Calls Tryd.prog 46 #[] w fun e w' => (∃ v, e = .returned v ∧ IsM w' (Old w') v (rawM aQ)) ∧ Below w.heap.size w w' := by
  go_enter Tryd.func46, Tryd.ntmps46
  go_wp2_with fail
  refine (whole3_l (w := w.alloc (.cells #[.int .i64 1, .int .i64 2] 3)) (l := [1, 2]) (heap_alloc_new w _) (by decide) (by decide)).mono ?_
  rintro e w1 ⟨⟨va, rfl, hv⟩, hb⟩
  have HB := Lib.hid (zaa (zbt w _) hb)
  have Va := Lib.hid (IsV.stb.old hv)
  obtain ⟨Pa, ka, rfl, _⟩ := zcm hv
  clear hv hb
  go_wp2_with fail
  refine (whole3_l (w := w1.alloc (.cells #[.int .i64 3, .int .i64 4] 3)) (l := [3, 4]) (heap_alloc_new w1 _) (by decide) (by decide)).mono ?_
  rintro e w2 ⟨⟨vb, rfl, hv⟩, hb⟩
  have hb' := zaa (zbt w1 _) hb
  have HB := Lib.hid (zaa HB.out hb')
  have Va := Lib.hid (IsV.stb.next Va.out hb')
  have Vb := Lib.hid (IsV.stb.old hv)
  obtain ⟨Pb, kb, rfl, _⟩ := zcm hv
  clear hv hb hb'
  go_wp2_with fail
  go_ret
  exact ⟨⟨_, rfl, isM_row2 (heap_alloc_new w2 _) (IsV.stb.next Va.out (zbt _ _)) (IsV.stb.next Vb.out (zbt _ _))⟩, zaa HB.out (zbt _ _)⟩
end Go.Proofs.YtjkgdggkgljdoaaDoor
