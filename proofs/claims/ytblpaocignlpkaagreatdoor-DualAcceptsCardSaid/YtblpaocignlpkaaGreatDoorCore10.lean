/-
  Contracts of package long's Minus, Times and Order on rational numbers.
-/
import Derived.Test.YtblpaocignlpkaaGreatDoorCore09
namespace Go.Proofs.YtblpaocignlpkaaGreatDoor
open Go.RowKit
set_option linter.unusedVariables false
set_option maxHeartbeats 400000 in
theorem minus_q {w : World} {va vb : Value} {qa qb qc : Rat} (ha : IsQ w (Old w) va qa) (hb : IsQ w (Old w) vb qb) (hB : Bru w) (hsa : Sz qa 100000) (hsb : Sz qb 100000) (hc : qc = qa - qb) : Calls Tryz.prog 57 #[va, vb] w (RetQ w qc) := by
  have HQa := Lib.hid ha
  obtain ⟨nega, Aa, cAa, Ba, cBa, rfl, Hnega, Hna, Hda⟩ := zan ha
  have HQb := Lib.hid hb
  obtain ⟨negb, Ab, cAb, Bb, cBb, rfl, Hnegb, Hnb, Hdb⟩ := zan hb
  obtain ⟨p, hp⟩ : ∃ p, p = -qb := ⟨_, rfl⟩
  have Hp := Lib.hid hp
  have Hq : Hid (qc = qa + p) := by rw [Hid, hc, hp, Rat.sub_eq_add_neg]
  have Hsa := Lib.hid hsa
  have Hsp : Hid (Sz p 100000) := by rw [Hid, hp]; exact hsb.neg
  have HB := Lib.hid hB
  clear ha hb hc hp hsa hsb hB
  obtain ⟨w0, hw0, hb0, ra, rb, rZ, Hz⟩ := zem w #[.bool nega, .slice Aa (lim qa.num.natAbs).length cAa, .slice Ba (lim qa.den).length cBa] #[.bool negb, .slice Ab (lim qb.num.natAbs).length cAb, .slice Bb (lim qb.den).length cBb] #[.bool false, .slice none 0 0, .slice none 0 0] 31 31 31
  have Qa_0 := Lib.hid (IsQ.stb.next HQa.out hb0)
  have Ra_0 := Lib.hid (ra)
  have Qb_0 := Lib.hid (IsQ.stb.next HQb.out hb0)
  have Rb_0 := Lib.hid (rb)
  have Z_0 := Lib.hid (rZ)
  have bw_0 := Lib.hid (hb0)
  have sz_0 : Hid (w.heap.size + 3 ≤ w0.heap.size) := Lib.hid (Nat.le_of_eq Hz.out.symm)
  clear ra rb rZ hb0
  obtain ⟨cRa0_1, cRa1_1, cRa2_1⟩ := zad Ra_0.out
  obtain ⟨cRb0_2, cRb1_2, cRb2_2⟩ := zad Rb_0.out
  obtain ⟨cZ0_3, cZ1_3, cZ2_3⟩ := zad Z_0.out
  obtain ⟨fZ0_3, fZ1_3, fZ2_3⟩ := zax Z_0.out
  have B_0 := Lib.hid (Bru.next HB.out bw_0.out)
  go_enter Tryz.func57, Tryz.ntmps57
  go_wp2_with fail
  clear hw0
  have Qa_1 := Lib.hid (IsQ.stb.next Qa_0.out (zac _))
  have Ra_1 := Lib.hid (Row.next Ra_0.out (zac _))
  have Qb_1 := Lib.hid (IsQ.stb.next Qb_0.out (zac _))
  have Rb_1 := Lib.hid (Row.next Rb_0.out (zac _))
  have Z_1 := Lib.hid (Row.next Z_0.out (zac _))
  have bw_1 := Lib.hid (zaa bw_0.out (zac _))
  have sz_1 := Lib.hid (zam sz_0.out (zac _))
  have B_1 := Lib.hid (Bru.next B_0.out (zac _))
  clear Qa_0 Ra_0 Qb_0 Rb_0 Z_0 bw_0 sz_0 B_0
  go_region_held3 (fun w' => w'.cell? ⟨w.heap.size, 0, none⟩ = some (.bool nega) ∧ w'.cell? ⟨w.heap.size, 1, none⟩ = some (.slice Aa (lim qa.num.natAbs).length cAa) ∧ w'.cell? ⟨w.heap.size, 2, none⟩ = some (.slice Ba (lim qa.den).length cBa) ∧ w'.cell? ⟨w.heap.size + 1, 0, none⟩ = some (.bool negb) ∧ w'.cell? ⟨w.heap.size + 1, 1, none⟩ = some (.slice Ab (lim qb.num.natAbs).length cAb) ∧ w'.cell? ⟨w.heap.size + 1, 2, none⟩ = some (.slice Bb (lim qb.den).length cBb))
    (first
      | exact ⟨cRa0_1, cRa1_1, cRa2_1, cRb0_2, cRb1_2, cRb2_2⟩
      | exact ⟨cRa0_4, cRa1_4, cRa2_4, cRb0_5, cRb1_5, cRb2_5⟩
      | exact ⟨cRa0_7, cRa1_7, cRa2_7, cRb0_8, cRb1_8, cRb2_8⟩
      | exact ⟨zbi cRa0_7 (by omega), zbi cRa1_7 (by omega), zbi cRa2_7 (by omega), zbi cRb0_8 (by omega), zbi cRb1_8 (by omega), zbi cRb2_8 (by omega)⟩)
    (first
      | (go_at_call 115; have hc := opposite_s Qb_1.out (fun _ h => h) Hp.out; (with_reducible refine hc.mono ?_); clear hc; rintro e w1 ⟨⟨v1, rfl, hv⟩, hb⟩; have newV := Lib.hid (isQ_oldS hv hb); have Qa_2 := Lib.hid (IsQ.stb.next Qa_1.out (hb)); have Ra_2 := Lib.hid (Row.next Ra_1.out (hb)); have Qb_2 := Lib.hid (IsQ.stb.next Qb_1.out (hb)); have Rb_2 := Lib.hid (Row.next Rb_1.out (hb)); have Z_2 := Lib.hid (Row.next Z_1.out (hb)); have bw_2 := Lib.hid (zaa bw_1.out (hb)); have sz_2 := Lib.hid (zam sz_1.out (hb)); have B_2 := Lib.hid (Bru.next B_1.out (hb)); clear Qa_1 Ra_1 Qb_1 Rb_1 Z_1 bw_1 sz_1 B_1; have V_0 := newV; clear newV; obtain ⟨s1, P1, k1, O1, l1, rfl, _, _, _⟩ := zan hv; clear cRa0_1 cRa1_1 cRa2_1 cRb0_2 cRb1_2 cRb2_2 cZ0_3 cZ1_3 cZ2_3 fZ0_3 fZ1_3 fZ2_3; obtain ⟨cRa0_4, cRa1_4, cRa2_4⟩ := zad Ra_2.out; obtain ⟨cRb0_5, cRb1_5, cRb2_5⟩ := zad Rb_2.out; obtain ⟨cZ0_6, cZ1_6, cZ2_6⟩ := zad Z_2.out; obtain ⟨fZ0_6, fZ1_6, fZ2_6⟩ := zax Z_2.out)
      | (go_at_call 91; have hc := plus_q Qa_2.out V_0.out B_2.out Hsa.out Hsp.out Hq.out; (with_reducible refine hc.mono ?_); clear hc; rintro e w2 ⟨⟨v2, rfl, hv2⟩, hb⟩; have newV2 := Lib.hid (IsQ.stb.le hv2 sz_2.out); have Qa_3 := Lib.hid (IsQ.stb.next Qa_2.out (hb)); have Ra_3 := Lib.hid (Row.next Ra_2.out (hb)); have Qb_3 := Lib.hid (IsQ.stb.next Qb_2.out (hb)); have Rb_3 := Lib.hid (Row.next Rb_2.out (hb)); have Z_3 := Lib.hid (Row.next Z_2.out (hb)); have bw_3 := Lib.hid (zaa bw_2.out (hb)); have sz_3 := Lib.hid (zam sz_2.out (hb)); have B_3 := Lib.hid (Bru.next B_2.out (hb)); have V_1 := Lib.hid (IsQ.stb.next V_0.out (hb)); clear Qa_2 Ra_2 Qb_2 Rb_2 Z_2 bw_2 sz_2 B_2 V_0; have V2_0 := newV2; clear newV2; obtain ⟨s2, P2, k2, O2, l2, rfl, _, _, _⟩ := zan hv2; clear cRa0_4 cRa1_4 cRa2_4 cRb0_5 cRb1_5 cRb2_5 cZ0_6 cZ1_6 cZ2_6 fZ0_6 fZ1_6 fZ2_6; obtain ⟨cRa0_7, cRa1_7, cRa2_7⟩ := zad Ra_3.out; obtain ⟨cRb0_8, cRb1_8, cRb2_8⟩ := zad Rb_3.out; obtain ⟨cZ0_9, cZ1_9, cZ2_9⟩ := zad Z_3.out; obtain ⟨fZ0_9, fZ1_9, fZ2_9⟩ := zax Z_3.out))
  go_wp2_with fail
  refine zbr Tryz.results57 rfl rfl (Row.put3 Z_3.out _ _ _) (retQ2 V2_0.out bw_3.out (by omega) (by omega))
set_option maxHeartbeats 400000 in
theorem times_a0 {w : World} {va vb : Value} {qa qb qc : Rat} (ha : IsQ w (Old w) va qa) (hb : IsQ w (Old w) vb qb) (h0 : qa = 0) (hc : qc = qa * qb) : Calls Tryz.prog 92 #[va, vb] w (RetQ w qc) := by
  have HQa := Lib.hid ha
  obtain ⟨nega, Aa, cAa, Ba, cBa, rfl, Hnega, Hna, Hda⟩ := zan ha
  have HQb := Lib.hid hb
  obtain ⟨negb, Ab, cAb, Bb, cBb, rfl, Hnegb, Hnb, Hdb⟩ := zan hb
  have e0 : (((lim qa.num.natAbs).length : Int) == 0) = true := zfi (by rw [h0]; rfl)
  have Hq : Hid (qc = 0) := by rw [Hid, hc, h0, Rat.zero_mul]
  clear h0
  clear ha hb hc
  obtain ⟨w0, hw0, hb0, ra, rb, rZ, Hz⟩ := zem w #[.bool nega, .slice Aa (lim qa.num.natAbs).length cAa, .slice Ba (lim qa.den).length cBa] #[.bool negb, .slice Ab (lim qb.num.natAbs).length cAb, .slice Bb (lim qb.den).length cBb] #[.bool false, .slice none 0 0, .slice none 0 0] 31 31 31
  have Qa_0 := Lib.hid (IsQ.stb.next HQa.out hb0)
  have Ra_0 := Lib.hid (ra)
  have Qb_0 := Lib.hid (IsQ.stb.next HQb.out hb0)
  have Rb_0 := Lib.hid (rb)
  have Z_0 := Lib.hid (rZ)
  have bw_0 := Lib.hid (hb0)
  have sz_0 : Hid (w.heap.size + 3 ≤ w0.heap.size) := Lib.hid (Nat.le_of_eq Hz.out.symm)
  clear ra rb rZ hb0
  obtain ⟨cRa0_1, cRa1_1, cRa2_1⟩ := zad Ra_0.out
  obtain ⟨cRb0_2, cRb1_2, cRb2_2⟩ := zad Rb_0.out
  obtain ⟨cZ0_3, cZ1_3, cZ2_3⟩ := zad Z_0.out
  obtain ⟨fZ0_3, fZ1_3, fZ2_3⟩ := zax Z_0.out
  go_enter Tryz.func92, Tryz.ntmps92
  go_wp2_with fail
  clear hw0
  refine (zero_q _).mono ?_
  rintro e w1 ⟨⟨v1, rfl, hv⟩, hb⟩
  have newV := Lib.hid (IsQ.stb.le hv sz_0.out)
  have Qa_1 := Lib.hid (IsQ.stb.next Qa_0.out (hb))
  have Ra_1 := Lib.hid (Row.next Ra_0.out (hb))
  have Qb_1 := Lib.hid (IsQ.stb.next Qb_0.out (hb))
  have Rb_1 := Lib.hid (Row.next Rb_0.out (hb))
  have Z_1 := Lib.hid (Row.next Z_0.out (hb))
  have bw_1 := Lib.hid (zaa bw_0.out (hb))
  have sz_1 := Lib.hid (zam sz_0.out (hb))
  clear Qa_0 Ra_0 Qb_0 Rb_0 Z_0 bw_0 sz_0
  have V_0 := newV
  clear newV
  obtain ⟨s1, P1, k1, O1, l1, rfl, _, _, _⟩ := zan hv
  clear cRa0_1 cRa1_1 cRa2_1 cRb0_2 cRb1_2 cRb2_2 cZ0_3 cZ1_3 cZ2_3 fZ0_3 fZ1_3 fZ2_3
  obtain ⟨cRa0_4, cRa1_4, cRa2_4⟩ := zad Ra_1.out
  obtain ⟨cRb0_5, cRb1_5, cRb2_5⟩ := zad Rb_1.out
  obtain ⟨cZ0_6, cZ1_6, cZ2_6⟩ := zad Z_1.out
  obtain ⟨fZ0_6, fZ1_6, fZ2_6⟩ := zax Z_1.out
  go_wp2_with fail
  rw [Hq.out]
  refine zbr Tryz.results92 rfl rfl (Row.put3 Z_1.out _ _ _) (retQ2 V_0.out bw_1.out (by omega) (by omega))
set_option maxHeartbeats 400000 in
theorem times_b0 {w : World} {va vb : Value} {qa qb qc : Rat} (ha : IsQ w (Old w) va qa) (hb : IsQ w (Old w) vb qb) (ha0 : qa ≠ 0) (h0 : qb = 0) (hc : qc = qa * qb) : Calls Tryz.prog 92 #[va, vb] w (RetQ w qc) := by
  have HQa := Lib.hid ha
  obtain ⟨nega, Aa, cAa, Ba, cBa, rfl, Hnega, Hna, Hda⟩ := zan ha
  have HQb := Lib.hid hb
  obtain ⟨negb, Ab, cAb, Bb, cBb, rfl, Hnegb, Hnb, Hdb⟩ := zan hb
  have e0 : (((lim qa.num.natAbs).length : Int) == 0) = false := zdz (zeu ha0)
  have e1 : (((lim qb.num.natAbs).length : Int) == 0) = true := zfi (by rw [h0]; rfl)
  have Hq : Hid (qc = 0) := by rw [Hid, hc, h0, Rat.mul_zero]
  clear h0 ha0
  clear ha hb hc
  obtain ⟨w0, hw0, hb0, ra, rb, rZ, Hz⟩ := zem w #[.bool nega, .slice Aa (lim qa.num.natAbs).length cAa, .slice Ba (lim qa.den).length cBa] #[.bool negb, .slice Ab (lim qb.num.natAbs).length cAb, .slice Bb (lim qb.den).length cBb] #[.bool false, .slice none 0 0, .slice none 0 0] 31 31 31
  have Qa_0 := Lib.hid (IsQ.stb.next HQa.out hb0)
  have Ra_0 := Lib.hid (ra)
  have Qb_0 := Lib.hid (IsQ.stb.next HQb.out hb0)
  have Rb_0 := Lib.hid (rb)
  have Z_0 := Lib.hid (rZ)
  have bw_0 := Lib.hid (hb0)
  have sz_0 : Hid (w.heap.size + 3 ≤ w0.heap.size) := Lib.hid (Nat.le_of_eq Hz.out.symm)
  clear ra rb rZ hb0
  obtain ⟨cRa0_1, cRa1_1, cRa2_1⟩ := zad Ra_0.out
  obtain ⟨cRb0_2, cRb1_2, cRb2_2⟩ := zad Rb_0.out
  obtain ⟨cZ0_3, cZ1_3, cZ2_3⟩ := zad Z_0.out
  obtain ⟨fZ0_3, fZ1_3, fZ2_3⟩ := zax Z_0.out
  go_enter Tryz.func92, Tryz.ntmps92
  go_wp2_with fail
  clear hw0
  refine (zero_q _).mono ?_
  rintro e w1 ⟨⟨v1, rfl, hv⟩, hb⟩
  have newV := Lib.hid (IsQ.stb.le hv sz_0.out)
  have Qa_1 := Lib.hid (IsQ.stb.next Qa_0.out (hb))
  have Ra_1 := Lib.hid (Row.next Ra_0.out (hb))
  have Qb_1 := Lib.hid (IsQ.stb.next Qb_0.out (hb))
  have Rb_1 := Lib.hid (Row.next Rb_0.out (hb))
  have Z_1 := Lib.hid (Row.next Z_0.out (hb))
  have bw_1 := Lib.hid (zaa bw_0.out (hb))
  have sz_1 := Lib.hid (zam sz_0.out (hb))
  clear Qa_0 Ra_0 Qb_0 Rb_0 Z_0 bw_0 sz_0
  have V_0 := newV
  clear newV
  obtain ⟨s1, P1, k1, O1, l1, rfl, _, _, _⟩ := zan hv
  clear cRa0_1 cRa1_1 cRa2_1 cRb0_2 cRb1_2 cRb2_2 cZ0_3 cZ1_3 cZ2_3 fZ0_3 fZ1_3 fZ2_3
  obtain ⟨cRa0_4, cRa1_4, cRa2_4⟩ := zad Ra_1.out
  obtain ⟨cRb0_5, cRb1_5, cRb2_5⟩ := zad Rb_1.out
  obtain ⟨cZ0_6, cZ1_6, cZ2_6⟩ := zad Z_1.out
  obtain ⟨fZ0_6, fZ1_6, fZ2_6⟩ := zax Z_1.out
  go_wp2_with fail
  rw [Hq.out]
  refine zbr Tryz.results92 rfl rfl (Row.put3 Z_1.out _ _ _) (retQ2 V_0.out bw_1.out (by omega) (by omega))
set_option maxRecDepth 100000 in
set_option maxHeartbeats 1000000 in
theorem times_w {w : World} {va vb : Value} {qa qb qc : Rat} (ha : IsQ w (Old w) va qa) (hb : IsQ w (Old w) vb qb) (hB : Bru w) (ha0 : qa ≠ 0) (hb0 : qb ≠ 0) (h1 : OneL qa qb) (hc : qc = qa * qb) : Calls Tryz.prog 92 #[va, vb] w (RetQ w qc) := by
  have HQa := Lib.hid ha
  obtain ⟨nega, Aa, cAa, Ba, cBa, rfl, Hnega, Hna, Hda⟩ := zan ha
  have HQb := Lib.hid hb
  obtain ⟨negb, Ab, cAb, Bb, cBb, rfl, Hnegb, Hnb, Hdb⟩ := zan hb
  have e0 : (((lim qa.num.natAbs).length : Int) == 0) = false := zdz (zeu ha0)
  have e1 : (((lim qb.num.natAbs).length : Int) == 0) = false := zdz (zeu hb0)
  have H1 := Lib.hid h1
  obtain ⟨l1, l2, l3, l4⟩ := h1
  obtain ⟨b1, o1, rfl, u1, g1, s1⟩ := zdm Hna.out l1
  obtain ⟨b2, o2, rfl, u2, g2, s2⟩ := zdm Hda.out l2
  obtain ⟨b3, o3, rfl, u3, g3, s3⟩ := zdm Hnb.out l3
  obtain ⟨b4, o4, rfl, u4, g4, s4⟩ := zdm Hdb.out l4
  have Hov : Hid (mkRat (sg (nega != negb) (qa.num.natAbs * qb.num.natAbs)) (qa.den * qb.den) = qc) := by rw [Hid, hc]; exact times_over Hnega.out Hnegb.out
  have m1 : 0 < (lim qa.num.natAbs).length := by omega
  have m2 : 0 < (lim qa.den).length := by omega
  have m3 : 0 < (lim qb.num.natAbs).length := by omega
  have m4 : 0 < (lim qb.den).length := by omega
  clear ha hb ha0 hb0 hc Hna Hda Hnb Hdb Hnega Hnegb l1 l2 l3 l4
  obtain ⟨w0, hw0, hb0, ra, rb, rZ, Hz⟩ := zem w #[.bool nega, .slice (some ⟨b1, o1, none⟩) (lim qa.num.natAbs).length cAa, .slice (some ⟨b2, o2, none⟩) (lim qa.den).length cBa] #[.bool negb, .slice (some ⟨b3, o3, none⟩) (lim qb.num.natAbs).length cAb, .slice (some ⟨b4, o4, none⟩) (lim qb.den).length cBb] #[.bool false, .slice none 0 0, .slice none 0 0] 31 31 31
  have v1 := zab hb0 u1
  have lt1 := World.block_lt_of_cell? w _ u1
  have v2 := zab hb0 u2
  have lt2 := World.block_lt_of_cell? w _ u2
  have v3 := zab hb0 u3
  have lt3 := World.block_lt_of_cell? w _ u3
  have v4 := zab hb0 u4
  have lt4 := World.block_lt_of_cell? w _ u4
  simp only at lt1 lt2 lt3 lt4
  clear u1 u2 u3 u4
  have Qa_0 := Lib.hid (IsQ.stb.next HQa.out hb0)
  have Qb_0 := Lib.hid (IsQ.stb.next HQb.out hb0)
  have Ra_0 := Lib.hid (ra)
  have Rb_0 := Lib.hid (rb)
  have Z_0 := Lib.hid (rZ)
  have bw_0 := Lib.hid (hb0)
  have sz_0 : Hid (w.heap.size + 3 ≤ w0.heap.size) := Lib.hid (Nat.le_of_eq Hz.out.symm)
  have B_0 := Lib.hid (Bru.next hB hb0)
  clear ra rb rZ hb0 hB
  obtain ⟨cRa0_1, cRa1_1, cRa2_1⟩ := zad Ra_0.out
  obtain ⟨cRb0_2, cRb1_2, cRb2_2⟩ := zad Rb_0.out
  obtain ⟨cZ0_3, cZ1_3, cZ2_3⟩ := zad Z_0.out
  obtain ⟨fZ0_3, fZ1_3, fZ2_3⟩ := zax Z_0.out
  obtain ⟨x, hx⟩ : ∃ x : Int, x = (qa.num.natAbs : Int) * (qb.num.natAbs : Int) := ⟨_, rfl⟩
  obtain ⟨d, hd⟩ : ∃ d : Int, d = (qa.den : Int) * (qb.den : Int) := ⟨_, rfl⟩
  obtain ⟨x0, x9⟩ := prod_limb g1 s1 g3 s3
  obtain ⟨d0, d9⟩ := prod_limb g2 s2 g4 s4
  rw [← hx] at x0 x9
  rw [← hd] at d0 d9
  have Hq : Hid (qc = mkRat (sg (nega != negb) x.toNat) d.toNat) := by rw [Hid, ← Hov.out, show x.toNat = qa.num.natAbs * qb.num.natAbs from by rw [hx]; exact Int.toNat_natCast _, show d.toNat = qa.den * qb.den from by rw [hd]; exact Int.toNat_natCast _]
  have e2 : IntKind.u64.wrap (qa.num.natAbs : Int) = (qa.num.natAbs : Int) := IntWalk.u64_in _ (by omega)
  have e3 : IntKind.u64.wrap (qa.den : Int) = (qa.den : Int) := IntWalk.u64_in _ (by omega)
  have e4 : IntKind.u64.wrap (qb.num.natAbs : Int) = (qb.num.natAbs : Int) := IntWalk.u64_in _ (by omega)
  have e5 : IntKind.u64.wrap (qb.den : Int) = (qb.den : Int) := IntWalk.u64_in _ (by omega)
  have k1 : IntKind.u64.wrap ((qa.num.natAbs : Int) * (qb.num.natAbs : Int)) = x := by rw [hx]; exact IntWalk.u64_in _ (by rw [← hx]; omega)
  have k3 : IntKind.u64.wrap ((qa.den : Int) * (qb.den : Int)) = d := by rw [hd]; exact IntWalk.u64_in _ (by rw [← hd]; omega)
  obtain ⟨ng, hng⟩ : ∃ ng : Bool, (!(nega == negb)) = ng := ⟨_, rfl⟩
  rw [show (nega != negb) = ng from hng] at Hq
  clear hx hd
  go_enter Tryz.func92, Tryz.ntmps92
  go_wp2_with fail
  clear hw0
  refine (oneLimb_q Qa_0.out Qb_0.out).mono ?_
  rintro e w1 ⟨⟨b1', rfl, hb1⟩, hb⟩
  have Qa_1 := Lib.hid (IsQ.stb.next Qa_0.out (hb))
  have Qb_1 := Lib.hid (IsQ.stb.next Qb_0.out (hb))
  have Ra_1 := Lib.hid (Row.next Ra_0.out (hb))
  have Rb_1 := Lib.hid (Row.next Rb_0.out (hb))
  have Z_1 := Lib.hid (Row.next Z_0.out (hb))
  have bw_1 := Lib.hid (zaa bw_0.out (hb))
  have sz_1 := Lib.hid (zam sz_0.out (hb))
  have B_1 := Lib.hid (Bru.next B_0.out (hb))
  clear Qa_0 Qb_0 Ra_0 Rb_0 Z_0 bw_0 sz_0 B_0
  obtain rfl : b1' = true := hb1.2 H1.out
  clear hb1
  have v1_4 := zab (hb) v1
  have v2_5 := zab (hb) v2
  have v3_6 := zab (hb) v3
  have v4_7 := zab (hb) v4
  clear cRa0_1 cRa1_1 cRa2_1 cRb0_2 cRb1_2 cRb2_2 cZ0_3 cZ1_3 cZ2_3 fZ0_3 fZ1_3 fZ2_3 v1 v2 v3 v4
  obtain ⟨cRa0_8, cRa1_8, cRa2_8⟩ := zad Ra_1.out
  obtain ⟨cRb0_9, cRb1_9, cRb2_9⟩ := zad Rb_1.out
  obtain ⟨cZ0_10, cZ1_10, cZ2_10⟩ := zad Z_1.out
  obtain ⟨fZ0_10, fZ1_10, fZ2_10⟩ := zax Z_1.out
  go_wp2_with fail
  clear hng
  have Qa_2 := Lib.hid (IsQ.stb.next Qa_1.out (zac _))
  have Qb_2 := Lib.hid (IsQ.stb.next Qb_1.out (zac _))
  have Ra_2 := Lib.hid (Row.next Ra_1.out (zac _))
  have Rb_2 := Lib.hid (Row.next Rb_1.out (zac _))
  have Z_2 := Lib.hid (Row.next Z_1.out (zac _))
  have bw_2 := Lib.hid (zaa bw_1.out (zac _))
  have sz_2 := Lib.hid (zam sz_1.out (zac _))
  have B_2 := Lib.hid (Bru.next B_1.out (zac _))
  clear Qa_1 Qb_1 Ra_1 Rb_1 Z_1 bw_1 sz_1 B_1
  go_region_held3 (fun w' => w'.cell? ⟨w.heap.size, 1, none⟩ = some (.slice (some ⟨b1, o1, none⟩) (lim qa.num.natAbs).length cAa) ∧ w'.cell? ⟨w.heap.size, 2, none⟩ = some (.slice (some ⟨b2, o2, none⟩) (lim qa.den).length cBa) ∧ w'.cell? ⟨w.heap.size + 1, 1, none⟩ = some (.slice (some ⟨b3, o3, none⟩) (lim qb.num.natAbs).length cAb) ∧ w'.cell? ⟨w.heap.size + 1, 2, none⟩ = some (.slice (some ⟨b4, o4, none⟩) (lim qb.den).length cBb) ∧ w'.cell? ⟨b1, o1, none⟩ = some (.int .u32 (qa.num.natAbs : Int)) ∧ w'.cell? ⟨b2, o2, none⟩ = some (.int .u32 (qa.den : Int)) ∧ w'.cell? ⟨b3, o3, none⟩ = some (.int .u32 (qb.num.natAbs : Int)) ∧ w'.cell? ⟨b4, o4, none⟩ = some (.int .u32 (qb.den : Int)))
    (first
      | exact ⟨cRa1_8, cRa2_8, cRb1_9, cRb2_9, v1_4, v2_5, v3_6, v4_7⟩
      | exact ⟨cRa1_15, cRa2_15, cRb1_16, cRb2_16, v1_11, v2_12, v3_13, v4_14⟩
      | exact ⟨zbi cRa1_15 (by omega), zbi cRa2_15 (by omega), zbi cRb1_16 (by omega), zbi cRb2_16 (by omega), zbi v1_11 (by omega), zbi v2_12 (by omega), zbi v3_13 (by omega), zbi v4_14 (by omega)⟩)
    (first
      | (go_at_call 142; have hc := words_i _ ng x d qc B_2.out (by omega) (by omega) (by omega) (by omega) Hq.out; (with_reducible refine hc.mono ?_); clear hc; rintro e w2 ⟨⟨v1', rfl, hv⟩, hb⟩; have newV := Lib.hid (IsQ.stb.le hv sz_2.out); have Qa_3 := Lib.hid (IsQ.stb.next Qa_2.out (hb)); have Qb_3 := Lib.hid (IsQ.stb.next Qb_2.out (hb)); have Ra_3 := Lib.hid (Row.next Ra_2.out (hb)); have Rb_3 := Lib.hid (Row.next Rb_2.out (hb)); have Z_3 := Lib.hid (Row.next Z_2.out (hb)); have bw_3 := Lib.hid (zaa bw_2.out (hb)); have sz_3 := Lib.hid (zam sz_2.out (hb)); have B_3 := Lib.hid (Bru.next B_2.out (hb)); clear Qa_2 Qb_2 Ra_2 Rb_2 Z_2 bw_2 sz_2 B_2; have V_0 := newV; clear newV; obtain ⟨s1, P1, k1, O1, l1, rfl, _, _, _⟩ := zan hv; have v1_11 := zab (hb) v1_4; have v2_12 := zab (hb) v2_5; have v3_13 := zab (hb) v3_6; have v4_14 := zab (hb) v4_7; clear cRa0_8 cRa1_8 cRa2_8 cRb0_9 cRb1_9 cRb2_9 cZ0_10 cZ1_10 cZ2_10 fZ0_10 fZ1_10 fZ2_10 v1_4 v2_5 v3_6 v4_7; obtain ⟨cRa0_15, cRa1_15, cRa2_15⟩ := zad Ra_3.out; obtain ⟨cRb0_16, cRb1_16, cRb2_16⟩ := zad Rb_3.out; obtain ⟨cZ0_17, cZ1_17, cZ2_17⟩ := zad Z_3.out; obtain ⟨fZ0_17, fZ1_17, fZ2_17⟩ := zax Z_3.out))
  go_wp2_with fail
  refine zbr Tryz.results92 rfl rfl (Row.put3 Z_3.out _ _ _) (retQ2 V_0.out bw_3.out (by omega) (by omega))
set_option maxRecDepth 100000 in
set_option maxHeartbeats 2000000 in
theorem times_g {w : World} {va vb : Value} {qa qb qc : Rat} (ha : IsQ w (Old w) va qa) (hb : IsQ w (Old w) vb qb) (hB : Bru w) (hsa : Sz qa 100000) (hsb : Sz qb 100000) (ha0 : qa ≠ 0) (hb0 : qb ≠ 0) (h1 : ¬ OneL qa qb) (hc : qc = qa * qb) : Calls Tryz.prog 92 #[va, vb] w (RetQ w qc) := by
  have HQa := Lib.hid ha
  obtain ⟨nega, Aa, cAa, Ba, cBa, rfl, Hnega, Hna, Hda⟩ := zan ha
  have HQb := Lib.hid hb
  obtain ⟨negb, Ab, cAb, Bb, cBb, rfl, Hnegb, Hnb, Hdb⟩ := zan hb
  have e0 : (((lim qa.num.natAbs).length : Int) == 0) = false := zdz (zeu ha0)
  have e1 : (((lim qb.num.natAbs).length : Int) == 0) = false := zdz (zeu hb0)
  have H1 := Lib.hid h1
  have HB := Lib.hid hB
  have Hsa := Lib.hid hsa
  have Hsb := Lib.hid hsb
  obtain ⟨G, hG⟩ : ∃ G, G = Nat.gcd qa.num.natAbs qb.den := ⟨_, rfl⟩
  obtain ⟨H, hH⟩ : ∃ H, H = Nat.gcd qb.num.natAbs qa.den := ⟨_, rfl⟩
  obtain ⟨ng, hng⟩ : ∃ ng : Bool, (!(nega == negb)) = ng := ⟨_, rfl⟩
  have Hr : Hid (raw qc = ⟨ng, lim (qa.num.natAbs / G * (qb.num.natAbs / H)), lim (qa.den / H * (qb.den / G))⟩) := by rw [Hid, hc, ← hng, hG, hH]; exact times_raw Hnega.out Hnegb.out ha0 hb0
  have HG := Lib.hid hG
  have HH := Lib.hid hH
  have HGp : Hid (0 < G) := by rw [Hid, hG]; exact gcd_pos_r _ qb.den_nz
  have HHp : Hid (0 < H) := by rw [Hid, hH]; exact gcd_pos_r _ qa.den_nz
  have HGl : Hid ((lim G).length ≤ 100000) := by rw [Hid, hG]; exact gcd_le_r _ qb.den_nz hsb.2
  have HHl : Hid ((lim H).length ≤ 100000) := by rw [Hid, hH]; exact gcd_le_r _ qa.den_nz hsa.2
  have L1 : Hid ((lim (qa.num.natAbs / G)).length ≤ 100000) := div_len hsa.1
  have L2 : Hid ((lim (qb.num.natAbs / H)).length ≤ 100000) := div_len hsb.1
  have L3 : Hid ((lim (qa.den / H)).length ≤ 100000) := div_len hsa.2
  have L4 : Hid ((lim (qb.den / G)).length ≤ 100000) := div_len hsb.2
  clear ha hb ha0 hb0 hc h1 hB hsa hsb hG hH
  obtain ⟨w0, hw0, hb0, ra, rb, rZ, Hz⟩ := zem w #[.bool nega, .slice Aa (lim qa.num.natAbs).length cAa, .slice Ba (lim qa.den).length cBa] #[.bool negb, .slice Ab (lim qb.num.natAbs).length cAb, .slice Bb (lim qb.den).length cBb] #[.bool false, .slice none 0 0, .slice none 0 0] 31 31 31
  have Qa_0 := Lib.hid (IsQ.stb.next HQa.out hb0)
  have Ra_0 := Lib.hid (ra)
  have Qb_0 := Lib.hid (IsQ.stb.next HQb.out hb0)
  have Rb_0 := Lib.hid (rb)
  have Z_0 := Lib.hid (rZ)
  have bw_0 := Lib.hid (hb0)
  have sz_0 : Hid (w.heap.size + 3 ≤ w0.heap.size) := Lib.hid (Nat.le_of_eq Hz.out.symm)
  clear ra rb rZ hb0
  obtain ⟨cRa0_1, cRa1_1, cRa2_1⟩ := zad Ra_0.out
  obtain ⟨cRb0_2, cRb1_2, cRb2_2⟩ := zad Rb_0.out
  obtain ⟨cZ0_3, cZ1_3, cZ2_3⟩ := zad Z_0.out
  obtain ⟨fZ0_3, fZ1_3, fZ2_3⟩ := zax Z_0.out
  have B_0 := Lib.hid (Bru.next HB.out bw_0.out)
  go_enter Tryz.func92, Tryz.ntmps92
  go_wp2_with fail
  clear hw0
  refine (oneLimb_q Qa_0.out Qb_0.out).mono ?_
  rintro e w1 ⟨⟨b1, rfl, hb1⟩, hb⟩
  have Qa_1 := Lib.hid (IsQ.stb.next Qa_0.out (hb))
  have Ra_1 := Lib.hid (Row.next Ra_0.out (hb))
  have Qb_1 := Lib.hid (IsQ.stb.next Qb_0.out (hb))
  have Rb_1 := Lib.hid (Row.next Rb_0.out (hb))
  have Z_1 := Lib.hid (Row.next Z_0.out (hb))
  have bw_1 := Lib.hid (zaa bw_0.out (hb))
  have sz_1 := Lib.hid (zam sz_0.out (hb))
  have B_1 := Lib.hid (Bru.next B_0.out (hb))
  clear Qa_0 Ra_0 Qb_0 Rb_0 Z_0 bw_0 sz_0 B_0
  obtain rfl : b1 = false := by cases b1 with | false => rfl | true => exact absurd (hb1.1 rfl) H1.out
  clear hb1
  clear cRa0_1 cRa1_1 cRa2_1 cRb0_2 cRb1_2 cRb2_2 cZ0_3 cZ1_3 cZ2_3 fZ0_3 fZ1_3 fZ2_3
  obtain ⟨cRa0_4, cRa1_4, cRa2_4⟩ := zad Ra_1.out
  obtain ⟨cRb0_5, cRb1_5, cRb2_5⟩ := zad Rb_1.out
  obtain ⟨cZ0_6, cZ1_6, cZ2_6⟩ := zad Z_1.out
  obtain ⟨fZ0_6, fZ1_6, fZ2_6⟩ := zax Z_1.out
  go_wp2_with fail
  clear hng
  have Qa_2 := Lib.hid (IsQ.stb.next Qa_1.out (zac _))
  have Ra_2 := Lib.hid (Row.next Ra_1.out (zac _))
  have Qb_2 := Lib.hid (IsQ.stb.next Qb_1.out (zac _))
  have Rb_2 := Lib.hid (Row.next Rb_1.out (zac _))
  have Z_2 := Lib.hid (Row.next Z_1.out (zac _))
  have bw_2 := Lib.hid (zaa bw_1.out (zac _))
  have sz_2 := Lib.hid (zam sz_1.out (zac _))
  have B_2 := Lib.hid (Bru.next B_1.out (zac _))
  clear Qa_1 Ra_1 Qb_1 Rb_1 Z_1 bw_1 sz_1 B_1
  go_region_held3 (fun w' => w'.cell? ⟨w.heap.size, 1, none⟩ = some (.slice Aa (lim qa.num.natAbs).length cAa) ∧ w'.cell? ⟨w.heap.size, 2, none⟩ = some (.slice Ba (lim qa.den).length cBa) ∧ w'.cell? ⟨w.heap.size + 1, 1, none⟩ = some (.slice Ab (lim qb.num.natAbs).length cAb) ∧ w'.cell? ⟨w.heap.size + 1, 2, none⟩ = some (.slice Bb (lim qb.den).length cBb))
    (first
      | exact ⟨cRa1_4, cRa2_4, cRb1_5, cRb2_5⟩
      | exact ⟨cRa1_7, cRa2_7, cRb1_8, cRb2_8⟩
      | exact ⟨cRa1_10, cRa2_10, cRb1_11, cRb2_11⟩)
    (first
      | (go_at_call 138; have hc := (show Calls Tryz.prog 138 #[.slice Aa (lim qa.num.natAbs).length cAa, .slice Bb (lim qb.den).length cBb] (World.drew w1) (fun e w' => (∃ v, e = .returned v ∧ IsN w' (World.heap (World.drew w1)).size w'.heap.size v G) ∧ Below (World.heap (World.drew w1)).size (World.drew w1) w') from by rw [HG.out]; exact gcd_n (zaq (zep Qa_2.out)) (zaq (zcx Qb_2.out)) B_2.out (Nat.le_trans Hsa.out.1 (by omega)) (Nat.le_trans Hsb.out.2 (by omega))); (with_reducible refine hc.mono ?_); clear hc; rintro e w2 ⟨⟨v2, rfl, hv2⟩, hb⟩; have newG := Lib.hid (zbo hv2 sz_2.out); have Qa_3 := Lib.hid (IsQ.stb.next Qa_2.out (hb)); have Ra_3 := Lib.hid (Row.next Ra_2.out (hb)); have Qb_3 := Lib.hid (IsQ.stb.next Qb_2.out (hb)); have Rb_3 := Lib.hid (Row.next Rb_2.out (hb)); have Z_3 := Lib.hid (Row.next Z_2.out (hb)); have bw_3 := Lib.hid (zaa bw_2.out (hb)); have sz_3 := Lib.hid (zam sz_2.out (hb)); have B_3 := Lib.hid (Bru.next B_2.out (hb)); clear Qa_2 Ra_2 Qb_2 Rb_2 Z_2 bw_2 sz_2 B_2; have G_0 := newG; clear newG; obtain ⟨P2, k2, rfl, _, _, _⟩ := id hv2; clear cRa0_4 cRa1_4 cRa2_4 cRb0_5 cRb1_5 cRb2_5 cZ0_6 cZ1_6 cZ2_6 fZ0_6 fZ1_6 fZ2_6; obtain ⟨cRa0_7, cRa1_7, cRa2_7⟩ := zad Ra_3.out; obtain ⟨cRb0_8, cRb1_8, cRb2_8⟩ := zad Rb_3.out; obtain ⟨cZ0_9, cZ1_9, cZ2_9⟩ := zad Z_3.out; obtain ⟨fZ0_9, fZ1_9, fZ2_9⟩ := zax Z_3.out)
      | (go_at_call 138; have hc := (show Calls Tryz.prog 138 #[.slice Ab (lim qb.num.natAbs).length cAb, .slice Ba (lim qa.den).length cBa] w2 (fun e w' => (∃ v, e = .returned v ∧ IsN w' (World.heap w2).size w'.heap.size v H) ∧ Below (World.heap w2).size w2 w') from by rw [HH.out]; exact gcd_n (zaq (zep Qb_3.out)) (zaq (zcx Qa_3.out)) B_3.out (Nat.le_trans Hsb.out.1 (by omega)) (Nat.le_trans Hsa.out.2 (by omega))); (with_reducible refine hc.mono ?_); clear hc; rintro e w3 ⟨⟨v3, rfl, hv3⟩, hb⟩; have newH := Lib.hid (zbo hv3 sz_3.out); have Qa_4 := Lib.hid (IsQ.stb.next Qa_3.out (hb)); have Ra_4 := Lib.hid (Row.next Ra_3.out (hb)); have Qb_4 := Lib.hid (IsQ.stb.next Qb_3.out (hb)); have Rb_4 := Lib.hid (Row.next Rb_3.out (hb)); have Z_4 := Lib.hid (Row.next Z_3.out (hb)); have bw_4 := Lib.hid (zaa bw_3.out (hb)); have sz_4 := Lib.hid (zam sz_3.out (hb)); have B_4 := Lib.hid (Bru.next B_3.out (hb)); have G_1 := Lib.hid (IsK.stb.fresh G_0.out (hb)); clear Qa_3 Ra_3 Qb_3 Rb_3 Z_3 bw_3 sz_3 B_3 G_0; have H_0 := newH; clear newH; obtain ⟨P3, k3, rfl, _, _, _⟩ := id hv3; clear cRa0_7 cRa1_7 cRa2_7 cRb0_8 cRb1_8 cRb2_8 cZ0_9 cZ1_9 cZ2_9 fZ0_9 fZ1_9 fZ2_9; obtain ⟨cRa0_10, cRa1_10, cRa2_10⟩ := zad Ra_4.out; obtain ⟨cRb0_11, cRb1_11, cRb2_11⟩ := zad Rb_4.out; obtain ⟨cZ0_12, cZ1_12, cZ2_12⟩ := zad Z_4.out; obtain ⟨fZ0_12, fZ1_12, fZ2_12⟩ := zax Z_4.out))
  go_wp2_with fail
  have Qa_5 := Lib.hid (IsQ.stb.next Qa_4.out (zac _))
  have Ra_5 := Lib.hid (Row.next Ra_4.out (zac _))
  have Qb_5 := Lib.hid (IsQ.stb.next Qb_4.out (zac _))
  have Rb_5 := Lib.hid (Row.next Rb_4.out (zac _))
  have Z_5 := Lib.hid (Row.next Z_4.out (zac _))
  have bw_5 := Lib.hid (zaa bw_4.out (zac _))
  have sz_5 := Lib.hid (zam sz_4.out (zac _))
  have B_5 := Lib.hid (Bru.next B_4.out (zac _))
  have G_2 := Lib.hid (IsK.stb.fresh G_1.out (zac _))
  have H_1 := Lib.hid (IsK.stb.fresh H_0.out (zac _))
  clear Qa_4 Ra_4 Qb_4 Rb_4 Z_4 bw_4 sz_4 B_4 G_1 H_0
  go_region_held3 (fun w' => w'.cell? ⟨w.heap.size, 1, none⟩ = some (.slice Aa (lim qa.num.natAbs).length cAa) ∧ w'.cell? ⟨w.heap.size + 1, 1, none⟩ = some (.slice Ab (lim qb.num.natAbs).length cAb))
    (first
      | exact ⟨cRa1_10, cRb1_11⟩
      | exact ⟨cRa1_13, cRb1_14⟩
      | exact ⟨cRa1_16, cRb1_17⟩
      | exact ⟨cRa1_19, cRb1_20⟩)
    (first
      | (go_at_call 139; have hc := over_old (zep Qa_5.out) (zaq (IsK.stb.old G_2.out)) (Nat.le_trans Hsa.out.1 (by omega)) (Nat.le_trans HGl.out (by omega)) HGp.out; (with_reducible refine hc.mono ?_); clear hc; rintro e w4 ⟨⟨v4, rfl, hv4⟩, hb⟩; have newE1 := Lib.hid (hv4); have Qa_6 := Lib.hid (IsQ.stb.next Qa_5.out (hb)); have Ra_6 := Lib.hid (Row.next Ra_5.out (hb)); have Qb_6 := Lib.hid (IsQ.stb.next Qb_5.out (hb)); have Rb_6 := Lib.hid (Row.next Rb_5.out (hb)); have Z_6 := Lib.hid (Row.next Z_5.out (hb)); have bw_6 := Lib.hid (zaa bw_5.out (hb)); have sz_6 := Lib.hid (zam sz_5.out (hb)); have B_6 := Lib.hid (Bru.next B_5.out (hb)); have G_3 := Lib.hid (IsK.stb.fresh G_2.out (hb)); have H_2 := Lib.hid (IsK.stb.fresh H_1.out (hb)); clear Qa_5 Ra_5 Qb_5 Rb_5 Z_5 bw_5 sz_5 B_5 G_2 H_1; have E1_0 := newE1; clear newE1; obtain ⟨P4, k4, rfl, _, _, _⟩ := id hv4; clear cRa0_10 cRa1_10 cRa2_10 cRb0_11 cRb1_11 cRb2_11 cZ0_12 cZ1_12 cZ2_12 fZ0_12 fZ1_12 fZ2_12; obtain ⟨cRa0_13, cRa1_13, cRa2_13⟩ := zad Ra_6.out; obtain ⟨cRb0_14, cRb1_14, cRb2_14⟩ := zad Rb_6.out; obtain ⟨cZ0_15, cZ1_15, cZ2_15⟩ := zad Z_6.out; obtain ⟨fZ0_15, fZ1_15, fZ2_15⟩ := zax Z_6.out)
      | (go_at_call 139; have hc := over_old (zep Qb_6.out) (zaq (IsK.stb.old H_2.out)) (Nat.le_trans Hsb.out.1 (by omega)) (Nat.le_trans HHl.out (by omega)) HHp.out; (with_reducible refine hc.mono ?_); clear hc; rintro e w5 ⟨⟨v5, rfl, hv5⟩, hb⟩; have newE2 := Lib.hid (hv5); have Qa_7 := Lib.hid (IsQ.stb.next Qa_6.out (hb)); have Ra_7 := Lib.hid (Row.next Ra_6.out (hb)); have Qb_7 := Lib.hid (IsQ.stb.next Qb_6.out (hb)); have Rb_7 := Lib.hid (Row.next Rb_6.out (hb)); have Z_7 := Lib.hid (Row.next Z_6.out (hb)); have bw_7 := Lib.hid (zaa bw_6.out (hb)); have sz_7 := Lib.hid (zam sz_6.out (hb)); have B_7 := Lib.hid (Bru.next B_6.out (hb)); have G_4 := Lib.hid (IsK.stb.fresh G_3.out (hb)); have H_3 := Lib.hid (IsK.stb.fresh H_2.out (hb)); have E1_1 := Lib.hid (IsK.stb.next E1_0.out (hb)); clear Qa_6 Ra_6 Qb_6 Rb_6 Z_6 bw_6 sz_6 B_6 G_3 H_2 E1_0; have E2_0 := newE2; clear newE2; obtain ⟨P5, k5, rfl, _, _, _⟩ := id hv5; clear cRa0_13 cRa1_13 cRa2_13 cRb0_14 cRb1_14 cRb2_14 cZ0_15 cZ1_15 cZ2_15 fZ0_15 fZ1_15 fZ2_15; obtain ⟨cRa0_16, cRa1_16, cRa2_16⟩ := zad Ra_7.out; obtain ⟨cRb0_17, cRb1_17, cRb2_17⟩ := zad Rb_7.out; obtain ⟨cZ0_18, cZ1_18, cZ2_18⟩ := zad Z_7.out; obtain ⟨fZ0_18, fZ1_18, fZ2_18⟩ := zax Z_7.out)
      | (go_at_call 120; have hc := mul_n (zaq E1_1.out) (zaq E2_0.out) (Nat.le_refl _) (Nat.le_refl _) (Nat.le_trans L1.out (by omega)) (Nat.le_trans L2.out (by omega)); (with_reducible refine hc.mono ?_); clear hc; rintro e w6 ⟨⟨v6, rfl, hv6⟩, hb⟩; have newM1 := Lib.hid (zbo hv6 sz_7.out); have Qa_8 := Lib.hid (IsQ.stb.next Qa_7.out (hb)); have Ra_8 := Lib.hid (Row.next Ra_7.out (hb)); have Qb_8 := Lib.hid (IsQ.stb.next Qb_7.out (hb)); have Rb_8 := Lib.hid (Row.next Rb_7.out (hb)); have Z_8 := Lib.hid (Row.next Z_7.out (hb)); have bw_8 := Lib.hid (zaa bw_7.out (hb)); have sz_8 := Lib.hid (zam sz_7.out (hb)); have B_8 := Lib.hid (Bru.next B_7.out (hb)); have G_5 := Lib.hid (IsK.stb.fresh G_4.out (hb)); have H_4 := Lib.hid (IsK.stb.fresh H_3.out (hb)); have E1_2 := Lib.hid (IsK.stb.next E1_1.out (hb)); have E2_1 := Lib.hid (IsK.stb.next E2_0.out (hb)); clear Qa_7 Ra_7 Qb_7 Rb_7 Z_7 bw_7 sz_7 B_7 G_4 H_3 E1_1 E2_0; have M1_0 := newM1; clear newM1; obtain ⟨P6, k6, rfl, _, _, _⟩ := id hv6; clear cRa0_16 cRa1_16 cRa2_16 cRb0_17 cRb1_17 cRb2_17 cZ0_18 cZ1_18 cZ2_18 fZ0_18 fZ1_18 fZ2_18; obtain ⟨cRa0_19, cRa1_19, cRa2_19⟩ := zad Ra_8.out; obtain ⟨cRb0_20, cRb1_20, cRb2_20⟩ := zad Rb_8.out; obtain ⟨cZ0_21, cZ1_21, cZ2_21⟩ := zad Z_8.out; obtain ⟨fZ0_21, fZ1_21, fZ2_21⟩ := zax Z_8.out))
  go_wp2_with fail
  have Qa_9 := Lib.hid (IsQ.stb.next Qa_8.out (zac _))
  have Ra_9 := Lib.hid (Row.next Ra_8.out (zac _))
  have Qb_9 := Lib.hid (IsQ.stb.next Qb_8.out (zac _))
  have Rb_9 := Lib.hid (Row.next Rb_8.out (zac _))
  have Z_9 := Lib.hid (Row.next Z_8.out (zac _))
  have bw_9 := Lib.hid (zaa bw_8.out (zac _))
  have sz_9 := Lib.hid (zam sz_8.out (zac _))
  have B_9 := Lib.hid (Bru.next B_8.out (zac _))
  have G_6 := Lib.hid (IsK.stb.fresh G_5.out (zac _))
  have H_5 := Lib.hid (IsK.stb.fresh H_4.out (zac _))
  have E1_3 := Lib.hid (IsK.stb.next E1_2.out (zac _))
  have E2_2 := Lib.hid (IsK.stb.next E2_1.out (zac _))
  have M1_1 := Lib.hid (IsK.stb.fresh M1_0.out (zac _))
  clear Qa_8 Ra_8 Qb_8 Rb_8 Z_8 bw_8 sz_8 B_8 G_5 H_4 E1_2 E2_1 M1_0
  go_region_held3 (fun w' => w'.cell? ⟨w.heap.size, 2, none⟩ = some (.slice Ba (lim qa.den).length cBa) ∧ w'.cell? ⟨w.heap.size + 1, 2, none⟩ = some (.slice Bb (lim qb.den).length cBb))
    (first
      | exact ⟨cRa2_19, cRb2_20⟩
      | exact ⟨cRa2_22, cRb2_23⟩
      | exact ⟨cRa2_25, cRb2_26⟩
      | exact ⟨cRa2_28, cRb2_29⟩
      | exact ⟨zbi cRa2_28 (by omega), zbi cRb2_29 (by omega)⟩)
    (first
      | (go_at_call 139; have hc := over_old (zcx Qa_9.out) (zaq (IsK.stb.old H_5.out)) (Nat.le_trans Hsa.out.2 (by omega)) (Nat.le_trans HHl.out (by omega)) HHp.out; (with_reducible refine hc.mono ?_); clear hc; rintro e w7 ⟨⟨v7, rfl, hv7⟩, hb⟩; have newE3 := Lib.hid (hv7); have Qa_10 := Lib.hid (IsQ.stb.next Qa_9.out (hb)); have Ra_10 := Lib.hid (Row.next Ra_9.out (hb)); have Qb_10 := Lib.hid (IsQ.stb.next Qb_9.out (hb)); have Rb_10 := Lib.hid (Row.next Rb_9.out (hb)); have Z_10 := Lib.hid (Row.next Z_9.out (hb)); have bw_10 := Lib.hid (zaa bw_9.out (hb)); have sz_10 := Lib.hid (zam sz_9.out (hb)); have B_10 := Lib.hid (Bru.next B_9.out (hb)); have G_7 := Lib.hid (IsK.stb.fresh G_6.out (hb)); have H_6 := Lib.hid (IsK.stb.fresh H_5.out (hb)); have E1_4 := Lib.hid (IsK.stb.next E1_3.out (hb)); have E2_3 := Lib.hid (IsK.stb.next E2_2.out (hb)); have M1_2 := Lib.hid (IsK.stb.fresh M1_1.out (hb)); clear Qa_9 Ra_9 Qb_9 Rb_9 Z_9 bw_9 sz_9 B_9 G_6 H_5 E1_3 E2_2 M1_1; have E3_0 := newE3; clear newE3; obtain ⟨P7, k7, rfl, _, _, _⟩ := id hv7; clear cRa0_19 cRa1_19 cRa2_19 cRb0_20 cRb1_20 cRb2_20 cZ0_21 cZ1_21 cZ2_21 fZ0_21 fZ1_21 fZ2_21; obtain ⟨cRa0_22, cRa1_22, cRa2_22⟩ := zad Ra_10.out; obtain ⟨cRb0_23, cRb1_23, cRb2_23⟩ := zad Rb_10.out; obtain ⟨cZ0_24, cZ1_24, cZ2_24⟩ := zad Z_10.out; obtain ⟨fZ0_24, fZ1_24, fZ2_24⟩ := zax Z_10.out)
      | (go_at_call 139; have hc := over_old (zcx Qb_10.out) (zaq (IsK.stb.old G_7.out)) (Nat.le_trans Hsb.out.2 (by omega)) (Nat.le_trans HGl.out (by omega)) HGp.out; (with_reducible refine hc.mono ?_); clear hc; rintro e w8 ⟨⟨v8, rfl, hv8⟩, hb⟩; have newE4 := Lib.hid (hv8); have Qa_11 := Lib.hid (IsQ.stb.next Qa_10.out (hb)); have Ra_11 := Lib.hid (Row.next Ra_10.out (hb)); have Qb_11 := Lib.hid (IsQ.stb.next Qb_10.out (hb)); have Rb_11 := Lib.hid (Row.next Rb_10.out (hb)); have Z_11 := Lib.hid (Row.next Z_10.out (hb)); have bw_11 := Lib.hid (zaa bw_10.out (hb)); have sz_11 := Lib.hid (zam sz_10.out (hb)); have B_11 := Lib.hid (Bru.next B_10.out (hb)); have G_8 := Lib.hid (IsK.stb.fresh G_7.out (hb)); have H_7 := Lib.hid (IsK.stb.fresh H_6.out (hb)); have E1_5 := Lib.hid (IsK.stb.next E1_4.out (hb)); have E2_4 := Lib.hid (IsK.stb.next E2_3.out (hb)); have M1_3 := Lib.hid (IsK.stb.fresh M1_2.out (hb)); have E3_1 := Lib.hid (IsK.stb.next E3_0.out (hb)); clear Qa_10 Ra_10 Qb_10 Rb_10 Z_10 bw_10 sz_10 B_10 G_7 H_6 E1_4 E2_3 M1_2 E3_0; have E4_0 := newE4; clear newE4; obtain ⟨P8, k8, rfl, _, _, _⟩ := id hv8; clear cRa0_22 cRa1_22 cRa2_22 cRb0_23 cRb1_23 cRb2_23 cZ0_24 cZ1_24 cZ2_24 fZ0_24 fZ1_24 fZ2_24; obtain ⟨cRa0_25, cRa1_25, cRa2_25⟩ := zad Ra_11.out; obtain ⟨cRb0_26, cRb1_26, cRb2_26⟩ := zad Rb_11.out; obtain ⟨cZ0_27, cZ1_27, cZ2_27⟩ := zad Z_11.out; obtain ⟨fZ0_27, fZ1_27, fZ2_27⟩ := zax Z_11.out)
      | (go_at_call 120; have hc := mul_n (zaq E3_1.out) (zaq E4_0.out) (Nat.le_refl _) (Nat.le_refl _) (Nat.le_trans L3.out (by omega)) (Nat.le_trans L4.out (by omega)); (with_reducible refine hc.mono ?_); clear hc; rintro e w9 ⟨⟨v9, rfl, hv9⟩, hb⟩; have newM2 := Lib.hid (zbo hv9 sz_11.out); have Qa_12 := Lib.hid (IsQ.stb.next Qa_11.out (hb)); have Ra_12 := Lib.hid (Row.next Ra_11.out (hb)); have Qb_12 := Lib.hid (IsQ.stb.next Qb_11.out (hb)); have Rb_12 := Lib.hid (Row.next Rb_11.out (hb)); have Z_12 := Lib.hid (Row.next Z_11.out (hb)); have bw_12 := Lib.hid (zaa bw_11.out (hb)); have sz_12 := Lib.hid (zam sz_11.out (hb)); have B_12 := Lib.hid (Bru.next B_11.out (hb)); have G_9 := Lib.hid (IsK.stb.fresh G_8.out (hb)); have H_8 := Lib.hid (IsK.stb.fresh H_7.out (hb)); have E1_6 := Lib.hid (IsK.stb.next E1_5.out (hb)); have E2_5 := Lib.hid (IsK.stb.next E2_4.out (hb)); have M1_4 := Lib.hid (IsK.stb.fresh M1_3.out (hb)); have E3_2 := Lib.hid (IsK.stb.next E3_1.out (hb)); have E4_1 := Lib.hid (IsK.stb.next E4_0.out (hb)); clear Qa_11 Ra_11 Qb_11 Rb_11 Z_11 bw_11 sz_11 B_11 G_8 H_7 E1_5 E2_4 M1_3 E3_1 E4_0; have M2_0 := newM2; clear newM2; obtain ⟨P9, k9, rfl, _, _, _⟩ := id hv9; clear cRa0_25 cRa1_25 cRa2_25 cRb0_26 cRb1_26 cRb2_26 cZ0_27 cZ1_27 cZ2_27 fZ0_27 fZ1_27 fZ2_27; obtain ⟨cRa0_28, cRa1_28, cRa2_28⟩ := zad Ra_12.out; obtain ⟨cRb0_29, cRb1_29, cRb2_29⟩ := zad Rb_12.out; obtain ⟨cZ0_30, cZ1_30, cZ2_30⟩ := zad Z_12.out; obtain ⟨fZ0_30, fZ1_30, fZ2_30⟩ := zax Z_12.out))
  go_wp2_with fail
  refine zbr Tryz.results92 rfl rfl (Row.put3 Z_12.out _ _ _) (retQ Hr.out bw_12.out (by omega) M1_4.out M2_0.out (by omega) (by omega))
theorem times_q {w : World} {va vb : Value} {qa qb qc : Rat} (ha : IsQ w (Old w) va qa) (hb : IsQ w (Old w) vb qb) (hB : Bru w) (hsa : Sz qa 100000) (hsb : Sz qb 100000) (hc : qc = qa * qb) : Calls Tryz.prog 92 #[va, vb] w (RetQ w qc) := by
  by_cases ha0 : qa = 0
  · exact times_a0 ha hb ha0 hc
  by_cases hb0 : qb = 0
  · exact times_b0 ha hb ha0 hb0 hc
  by_cases h1 : OneL qa qb
  · exact times_w ha hb hB ha0 hb0 h1 hc
  · exact times_g ha hb hB hsa hsb ha0 hb0 h1 hc
set_option maxRecDepth 100000 in
set_option maxHeartbeats 2000000 in
theorem order_q {w : World} {va vb : Value} {qa qb : Rat} (ha : IsQ w (Old w) va qa) (hb : IsQ w (Old w) vb qb) (hsa : Sz qa 100000) (hsb : Sz qb 100000) : Calls Tryz.prog 65 #[va, vb] w fun e w' => e = .returned (.int .i64 (cmpQ qa qb)) ∧ Below w.heap.size w w' := by
  have HQa := Lib.hid ha
  obtain ⟨nega, Aa, cAa, Ba, cBa, rfl, Hnega, Hna, Hda⟩ := zan ha
  have HQb := Lib.hid hb
  obtain ⟨negb, Ab, cAb, Bb, cBb, rfl, Hnegb, Hnb, Hdb⟩ := zan hb
  have Hsa := Lib.hid hsa
  have Hsb := Lib.hid hsb
  obtain ⟨x, hx⟩ : ∃ x, x = sgnQ qa := ⟨_, rfl⟩
  obtain ⟨y, hy⟩ : ∃ y, y = sgnQ qb := ⟨_, rfl⟩
  have bx : -1 ≤ x ∧ x ≤ 1 := by rw [hx]; rcases sgnQ_val qa with h | h | h <;> omega
  have by_ : -1 ≤ y ∧ y ≤ 1 := by rw [hy]; rcases sgnQ_val qb with h | h | h <;> omega
  obtain ⟨bx0, bx1⟩ := bx
  obtain ⟨by0, by1⟩ := by_
  have Hx := Lib.hid hx
  have Hy := Lib.hid hy
  clear ha hb hsa hsb hx hy
  obtain ⟨w0, hw0, hb0, ra, rb, Hz⟩ := zcl w #[.bool nega, .slice Aa (lim qa.num.natAbs).length cAa, .slice Ba (lim qa.den).length cBa] #[.bool negb, .slice Ab (lim qb.num.natAbs).length cAb, .slice Bb (lim qb.den).length cBb] 31 31
  have Qa_0 := Lib.hid (IsQ.stb.next HQa.out hb0)
  have Ra_0 := Lib.hid (ra)
  have Qb_0 := Lib.hid (IsQ.stb.next HQb.out hb0)
  have Rb_0 := Lib.hid (rb)
  have bw_0 := Lib.hid (hb0)
  have sz_0 : Hid (w.heap.size + 2 ≤ w0.heap.size) := Lib.hid (Nat.le_of_eq Hz.out.symm)
  clear ra rb hb0
  obtain ⟨cRa0_1, cRa1_1, cRa2_1⟩ := zad Ra_0.out
  obtain ⟨cRb0_2, cRb1_2, cRb2_2⟩ := zad Rb_0.out
  go_enter Tryz.func65, Tryz.ntmps65
  go_wp2_with fail
  clear hw0
  have Qa_1 := Lib.hid (IsQ.stb.next Qa_0.out (zac _))
  have Ra_1 := Lib.hid (Row.next Ra_0.out (zac _))
  have Qb_1 := Lib.hid (IsQ.stb.next Qb_0.out (zac _))
  have Rb_1 := Lib.hid (Row.next Rb_0.out (zac _))
  have bw_1 := Lib.hid (zaa bw_0.out (zac _))
  have sz_1 := Lib.hid (zam sz_0.out (zac _))
  clear Qa_0 Ra_0 Qb_0 Rb_0 bw_0 sz_0
  go_region_held3 (fun w' => w'.cell? ⟨w.heap.size, 0, none⟩ = some (.bool nega) ∧ w'.cell? ⟨w.heap.size, 1, none⟩ = some (.slice Aa (lim qa.num.natAbs).length cAa) ∧ w'.cell? ⟨w.heap.size, 2, none⟩ = some (.slice Ba (lim qa.den).length cBa) ∧ w'.cell? ⟨w.heap.size + 1, 0, none⟩ = some (.bool negb) ∧ w'.cell? ⟨w.heap.size + 1, 1, none⟩ = some (.slice Ab (lim qb.num.natAbs).length cAb) ∧ w'.cell? ⟨w.heap.size + 1, 2, none⟩ = some (.slice Bb (lim qb.den).length cBb))
    (first
      | exact ⟨cRa0_1, cRa1_1, cRa2_1, cRb0_2, cRb1_2, cRb2_2⟩
      | exact ⟨cRa0_3, cRa1_3, cRa2_3, cRb0_4, cRb1_4, cRb2_4⟩
      | exact ⟨cRa0_5, cRa1_5, cRa2_5, cRb0_6, cRb1_6, cRb2_6⟩)
    (first
      | (go_at_call 64; have hc := (show Calls Tryz.prog 64 #[.agg #[.bool nega, .slice Aa (lim qa.num.natAbs).length cAa, .slice Ba (lim qa.den).length cBa]] (World.drew w0) (fun e w' => e = .returned (.int .i64 x) ∧ Below (World.heap (World.drew w0)).size (World.drew w0) w') from by rw [Hx.out]; exact sign_q Qa_1.out); (with_reducible refine hc.mono ?_); clear hc; rintro e w1 ⟨rfl, hb⟩; have Qa_2 := Lib.hid (IsQ.stb.next Qa_1.out (hb)); have Ra_2 := Lib.hid (Row.next Ra_1.out (hb)); have Qb_2 := Lib.hid (IsQ.stb.next Qb_1.out (hb)); have Rb_2 := Lib.hid (Row.next Rb_1.out (hb)); have bw_2 := Lib.hid (zaa bw_1.out (hb)); have sz_2 := Lib.hid (zam sz_1.out (hb)); clear Qa_1 Ra_1 Qb_1 Rb_1 bw_1 sz_1; clear cRa0_1 cRa1_1 cRa2_1 cRb0_2 cRb1_2 cRb2_2; obtain ⟨cRa0_3, cRa1_3, cRa2_3⟩ := zad Ra_2.out; obtain ⟨cRb0_4, cRb1_4, cRb2_4⟩ := zad Rb_2.out)
      | (go_at_call 64; have hc := (show Calls Tryz.prog 64 #[.agg #[.bool negb, .slice Ab (lim qb.num.natAbs).length cAb, .slice Bb (lim qb.den).length cBb]] w1 (fun e w' => e = .returned (.int .i64 y) ∧ Below (World.heap w1).size w1 w') from by rw [Hy.out]; exact sign_q Qb_2.out); (with_reducible refine hc.mono ?_); clear hc; rintro e w2 ⟨rfl, hb⟩; have Qa_3 := Lib.hid (IsQ.stb.next Qa_2.out (hb)); have Ra_3 := Lib.hid (Row.next Ra_2.out (hb)); have Qb_3 := Lib.hid (IsQ.stb.next Qb_2.out (hb)); have Rb_3 := Lib.hid (Row.next Rb_2.out (hb)); have bw_3 := Lib.hid (zaa bw_2.out (hb)); have sz_3 := Lib.hid (zam sz_2.out (hb)); clear Qa_2 Ra_2 Qb_2 Rb_2 bw_2 sz_2; clear cRa0_3 cRa1_3 cRa2_3 cRb0_4 cRb1_4 cRb2_4; obtain ⟨cRa0_5, cRa1_5, cRa2_5⟩ := zad Ra_3.out; obtain ⟨cRb0_6, cRb1_6, cRb2_6⟩ := zad Rb_3.out))
  rcases Int.lt_trichotomy x y with hxy | hxy | hxy
  · have e1 : (x != y) = true := bne_iff_ne.2 (by omega)
    have Hr : Hid (cmpQ qa qb = -1) := by rw [Hid, order_ne (by rw [← Hx.out, ← Hy.out]; omega), if_pos (by rw [← Hx.out, ← Hy.out]; exact hxy)]
    go_wp2_with fail
    go_ret
    exact ⟨zar Hr.out.symm, bw_3.out⟩
  · have e1 : (x != y) = false := by rw [hxy]; simp
    have Hr : Hid (cmpQ qa qb = x * sgn (qa.num.natAbs * qb.den) (qb.num.natAbs * qa.den)) := by
      rw [Hid, Hx.out]
      exact (order_val qa qb sgn (fun a b => ⟨sgn_lt, sgn_eq, sgn_gt⟩) (by rw [← Hx.out, ← Hy.out, hxy])).symm
    obtain ⟨n1, hn1⟩ : ∃ n1, n1 = qa.num.natAbs * qb.den := ⟨_, rfl⟩
    obtain ⟨n2, hn2⟩ : ∃ n2, n2 = qb.num.natAbs * qa.den := ⟨_, rfl⟩
    rw [← hn1, ← hn2] at Hr
    have Hn1 := Lib.hid hn1
    have Hn2 := Lib.hid hn2
    clear hn1 hn2 hxy
    obtain ⟨r, hr⟩ : ∃ r, r = sgn n1 n2 := ⟨_, rfl⟩
    have br : -1 ≤ r ∧ r ≤ 1 := by
      rw [hr]
      rcases Nat.lt_trichotomy n1 n2 with h | h | h
      · rw [sgn_lt h]; omega
      · rw [sgn_eq h]; omega
      · rw [sgn_gt h]; omega
    obtain ⟨br0, br1⟩ := br
    rw [← hr] at Hr
    have Hrr := Lib.hid hr
    have kw : IntKind.i64.wrap (x * r) = x * r := IntWalk.i64_in _ (by
      rcases (by omega : x = -1 ∨ x = 0 ∨ x = 1) with h | h | h <;> rw [h] <;> omega)
    clear hr
    go_wp2_with fail
    have Qa_4 := Lib.hid (IsQ.stb.next Qa_3.out (zac _))
    have Ra_4 := Lib.hid (Row.next Ra_3.out (zac _))
    have Qb_4 := Lib.hid (IsQ.stb.next Qb_3.out (zac _))
    have Rb_4 := Lib.hid (Row.next Rb_3.out (zac _))
    have bw_4 := Lib.hid (zaa bw_3.out (zac _))
    have sz_4 := Lib.hid (zam sz_3.out (zac _))
    clear Qa_3 Ra_3 Qb_3 Rb_3 bw_3 sz_3
    go_region_held3 (fun w' => w'.cell? ⟨w.heap.size, 1, none⟩ = some (.slice Aa (lim qa.num.natAbs).length cAa) ∧ w'.cell? ⟨w.heap.size, 2, none⟩ = some (.slice Ba (lim qa.den).length cBa) ∧ w'.cell? ⟨w.heap.size + 1, 1, none⟩ = some (.slice Ab (lim qb.num.natAbs).length cAb) ∧ w'.cell? ⟨w.heap.size + 1, 2, none⟩ = some (.slice Bb (lim qb.den).length cBb))
      (first
        | exact ⟨cRa1_5, cRa2_5, cRb1_6, cRb2_6⟩
        | exact ⟨cRa1_7, cRa2_7, cRb1_8, cRb2_8⟩
        | exact ⟨cRa1_9, cRa2_9, cRb1_10, cRb2_10⟩
        | exact ⟨cRa1_11, cRa2_11, cRb1_12, cRb2_12⟩)
      (first
        | (go_at_call 120; have hc := (show Calls Tryz.prog 120 #[.slice Aa (lim qa.num.natAbs).length cAa, .slice Bb (lim qb.den).length cBb] (World.drew w2) (fun e w' => (∃ v, e = .returned v ∧ IsN w' (World.heap (World.drew w2)).size w'.heap.size v n1) ∧ Below (World.heap (World.drew w2)).size (World.drew w2) w') from by rw [Hn1.out]; exact mul_n (zaq (zep Qa_4.out)) (zaq (zcx Qb_4.out)) (Nat.le_refl _) (Nat.le_refl _) (Nat.le_trans Hsa.out.1 (by omega)) (Nat.le_trans Hsb.out.2 (by omega))); (with_reducible refine hc.mono ?_); clear hc; rintro e w3 ⟨⟨v3, rfl, hv3⟩, hb⟩; have newM1 := Lib.hid (zbo hv3 sz_4.out); have Qa_5 := Lib.hid (IsQ.stb.next Qa_4.out (hb)); have Ra_5 := Lib.hid (Row.next Ra_4.out (hb)); have Qb_5 := Lib.hid (IsQ.stb.next Qb_4.out (hb)); have Rb_5 := Lib.hid (Row.next Rb_4.out (hb)); have bw_5 := Lib.hid (zaa bw_4.out (hb)); have sz_5 := Lib.hid (zam sz_4.out (hb)); clear Qa_4 Ra_4 Qb_4 Rb_4 bw_4 sz_4; have M1_0 := newM1; clear newM1; obtain ⟨P3, k3, rfl, _, _, _⟩ := id hv3; clear cRa0_5 cRa1_5 cRa2_5 cRb0_6 cRb1_6 cRb2_6; obtain ⟨cRa0_7, cRa1_7, cRa2_7⟩ := zad Ra_5.out; obtain ⟨cRb0_8, cRb1_8, cRb2_8⟩ := zad Rb_5.out)
        | (go_at_call 120; have hc := (show Calls Tryz.prog 120 #[.slice Ab (lim qb.num.natAbs).length cAb, .slice Ba (lim qa.den).length cBa] w3 (fun e w' => (∃ v, e = .returned v ∧ IsN w' (World.heap w3).size w'.heap.size v n2) ∧ Below (World.heap w3).size w3 w') from by rw [Hn2.out]; exact mul_n (zaq (zep Qb_5.out)) (zaq (zcx Qa_5.out)) (Nat.le_refl _) (Nat.le_refl _) (Nat.le_trans Hsb.out.1 (by omega)) (Nat.le_trans Hsa.out.2 (by omega))); (with_reducible refine hc.mono ?_); clear hc; rintro e w4 ⟨⟨v4, rfl, hv4⟩, hb⟩; have newM2 := Lib.hid (zbo hv4 sz_5.out); have Qa_6 := Lib.hid (IsQ.stb.next Qa_5.out (hb)); have Ra_6 := Lib.hid (Row.next Ra_5.out (hb)); have Qb_6 := Lib.hid (IsQ.stb.next Qb_5.out (hb)); have Rb_6 := Lib.hid (Row.next Rb_5.out (hb)); have bw_6 := Lib.hid (zaa bw_5.out (hb)); have sz_6 := Lib.hid (zam sz_5.out (hb)); have M1_1 := Lib.hid (IsK.stb.fresh M1_0.out (hb)); clear Qa_5 Ra_5 Qb_5 Rb_5 bw_5 sz_5 M1_0; have M2_0 := newM2; clear newM2; obtain ⟨P4, k4, rfl, _, _, _⟩ := id hv4; clear cRa0_7 cRa1_7 cRa2_7 cRb0_8 cRb1_8 cRb2_8; obtain ⟨cRa0_9, cRa1_9, cRa2_9⟩ := zad Ra_6.out; obtain ⟨cRb0_10, cRb1_10, cRb2_10⟩ := zad Rb_6.out)
        | (go_at_call 119; have hc := (show Calls Tryz.prog 119 #[.slice P3 (lim n1).length k3, .slice P4 (lim n2).length k4] w4 (fun e w' => e = .returned (.int .i64 r) ∧ Below (World.heap w4).size w4 w') from by rw [Hrr.out]; exact (cmp_n (zaq (IsK.stb.old M1_1.out)) (zaq (IsK.stb.old M2_0.out))).mono fun e w' ⟨he, hd⟩ => ⟨he, hd.below _⟩); (with_reducible refine hc.mono ?_); clear hc; rintro e w5 ⟨rfl, hb⟩; have Qa_7 := Lib.hid (IsQ.stb.next Qa_6.out (hb)); have Ra_7 := Lib.hid (Row.next Ra_6.out (hb)); have Qb_7 := Lib.hid (IsQ.stb.next Qb_6.out (hb)); have Rb_7 := Lib.hid (Row.next Rb_6.out (hb)); have bw_7 := Lib.hid (zaa bw_6.out (hb)); have sz_7 := Lib.hid (zam sz_6.out (hb)); have M1_2 := Lib.hid (IsK.stb.fresh M1_1.out (hb)); have M2_1 := Lib.hid (IsK.stb.fresh M2_0.out (hb)); clear Qa_6 Ra_6 Qb_6 Rb_6 bw_6 sz_6 M1_1 M2_0; clear cRa0_9 cRa1_9 cRa2_9 cRb0_10 cRb1_10 cRb2_10; obtain ⟨cRa0_11, cRa1_11, cRa2_11⟩ := zad Ra_7.out; obtain ⟨cRb0_12, cRb1_12, cRb2_12⟩ := zad Rb_7.out))
    go_wp2_with fail
    go_ret
    exact ⟨zar Hr.out.symm, bw_7.out⟩
  · have e1 : (x != y) = true := bne_iff_ne.2 (by omega)
    have Hr : Hid (cmpQ qa qb = 1) := by rw [Hid, order_ne (by rw [← Hx.out, ← Hy.out]; omega), if_neg (by rw [← Hx.out, ← Hy.out]; omega)]
    go_wp2_with fail
    go_ret
    exact ⟨zar Hr.out.symm, bw_3.out⟩
end Go.Proofs.YtblpaocignlpkaaGreatDoor
