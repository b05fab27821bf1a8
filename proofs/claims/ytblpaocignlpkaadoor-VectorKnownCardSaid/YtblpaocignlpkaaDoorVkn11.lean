/-
  Contracts of package long's functions on whole numbers: Whole, Lift, Ratio, Cross, Lcm.
-/
import Derived.Test.YtblpaocignlpkaaDoorVkn07
import Derived.Test.YtblpaocignlpkaaDoorVkn09
namespace Go.Proofs.YtblpaocignlpkaaDoor
open Go.RowKit
set_option linter.unusedVariables false
theorem raw_int (z : Int) : raw (z : Rat) = ⟨decide (z < 0), lim z.natAbs, lim 1⟩ := by
  unfold raw
  rw [Rat.num_intCast, Rat.den_intCast]
theorem raw_nat (n : Nat) : raw (((n : Nat) : Int) : Rat) = ⟨false, lim n, lim 1⟩ := by
  rw [raw_int, Int.natAbs_natCast]
  have : ¬ ((n : Int) < 0) := by omega
  simp [this]
theorem zft {w : World} {v : Value} {n : Nat} (h : IsN w 0 w.heap.size v n) : ∃ A c, v = .slice A (lim n).length c ∧ (lim n).length ≤ 9223372036854775807 := by
  have hl := h.length_le
  obtain ⟨A, c, rfl, _⟩ := h
  exact ⟨A, c, rfl, by unfold maxLen at hl; omega⟩
theorem boxes5 (w : World) (c1 c2 c3 c4 c5 : Array Value) (t1 t2 t3 t4 t5 : TypeId) : ∃ w0, ((((w.alloc (.cells c1 t1)).alloc (.cells c2 t2)).alloc (.cells c3 t3)).alloc (.cells c4 t4)).alloc (.cells c5 t5) = w0 ∧ Below w.heap.size w w0 ∧ Row w0 w.heap.size t1 c1.toList ∧ Row w0 (w.heap.size + 1) t2 c2.toList ∧
    Row w0 (w.heap.size + 2) t3 c3.toList ∧ Row w0 (w.heap.size + 3) t4 c4.toList ∧ Row w0 (w.heap.size + 4) t5 c5.toList ∧ Hid (w0.heap.size = w.heap.size + 5) := by
  obtain ⟨w1, rfl, h1, h2, h3, h4, h5⟩ := zfm w c1 c2 c3 t1 t2 t3
  obtain ⟨w2, rfl, k1, k2, k3, k4⟩ := zej ((((w.alloc (.cells c1 t1)).alloc (.cells c2 t2)).alloc (.cells c3 t3))) c4 c5 t4 t5
  rw [h5.out] at k2 k3 k4
  exact ⟨_, rfl, zaa h1 k1, h2.next k1, h3.next k1, h4.next k1, k2, k3, k4⟩
set_option maxHeartbeats 400000 in
theorem whole_f {w : World} {v : Value} {n : Nat} (h : IsN w 0 w.heap.size v n) (hn : (lim n).length ≤ 4294967296) : Calls Tryd.prog 71 #[.bool false, v] w (RetQ w (((n : Nat) : Int) : Rat)) := by
  have HN := Lib.hid h
  obtain ⟨A, c, rfl, hl⟩ := zft h
  have Hn := Lib.hid hn
  clear h hn
  obtain ⟨w0, hw0, hb0, rZ, Hz⟩ := zbv w #[.bool false, .slice none 0 0, .slice none 0 0] 50
  have Z_0 := Lib.hid (rZ)
  have bw_0 := Lib.hid (hb0)
  have sz_0 : Hid (w.heap.size + 1 ≤ w0.heap.size) := Lib.hid (Nat.le_of_eq Hz.out.symm)
  clear rZ hb0
  obtain ⟨cZ0_1, cZ1_1, cZ2_1⟩ := zad Z_0.out
  obtain ⟨fZ0_1, fZ1_1, fZ2_1⟩ := zax Z_0.out
  have N_0 := Lib.hid (IsN.next HN.out bw_0.out)
  go_enter Tryd.func71, Tryd.ntmps71
  go_wp2_with fail
  clear hw0
  refine (copy_n N_0.out Hn.out).mono ?_
  rintro e w1 ⟨⟨v1, rfl, hv1⟩, hb⟩
  have newV1 := Lib.hid (zbb hv1 sz_0.out)
  have Z_1 := Lib.hid (Row.next Z_0.out (hb))
  have bw_1 := Lib.hid (zaa bw_0.out (hb))
  have sz_1 := Lib.hid (zag sz_0.out (hb))
  have N_1 := Lib.hid (IsN.next N_0.out (hb))
  clear Z_0 bw_0 sz_0 N_0
  have V1_0 := newV1
  clear newV1
  obtain ⟨P1, k1, rfl, _, _, _⟩ := id hv1
  clear cZ0_1 cZ1_1 cZ2_1 fZ0_1 fZ1_1 fZ2_1
  obtain ⟨cZ0_2, cZ1_2, cZ2_2⟩ := zad Z_1.out
  obtain ⟨fZ0_2, fZ1_2, fZ2_2⟩ := zax Z_1.out
  go_wp2_with fail
  refine (one_n _).mono ?_
  rintro e w2 ⟨⟨v2, rfl, hv2⟩, hb⟩
  have newV2 := Lib.hid (zbb hv2 sz_1.out)
  have Z_2 := Lib.hid (Row.next Z_1.out (hb))
  have bw_2 := Lib.hid (zaa bw_1.out (hb))
  have sz_2 := Lib.hid (zag sz_1.out (hb))
  have N_2 := Lib.hid (IsN.next N_1.out (hb))
  have V1_1 := Lib.hid (IsK.stb.fresh V1_0.out (hb))
  clear Z_1 bw_1 sz_1 N_1 V1_0
  have V2_0 := newV2
  clear newV2
  obtain ⟨P2, k2, rfl, _, _, _⟩ := id hv2
  clear cZ0_2 cZ1_2 cZ2_2 fZ0_2 fZ1_2 fZ2_2
  obtain ⟨cZ0_3, cZ1_3, cZ2_3⟩ := zad Z_2.out
  obtain ⟨fZ0_3, fZ1_3, fZ2_3⟩ := zax Z_2.out
  go_wp2_with fail
  refine zbh Tryd.results71 rfl rfl (Row.put3 Z_2.out _ _ _) (retQ (raw_nat n) bw_2.out (by omega) V1_1.out V2_0.out (by omega) (by omega))
theorem raw_lift {q : Rat} {n : Nat} (h : 0 < n / q.den) : raw ((q.num * ((n / q.den : Nat) : Int) : Int) : Rat) = ⟨decide (q.num < 0), lim (q.num.natAbs * (n / q.den)), lim 1⟩ := by
  rw [raw_int, Int.natAbs_mul, Int.natAbs_natCast]
  congr 1
  rw [decide_eq_decide]
  have h1 : (0 : Int) < ((n / q.den : Nat) : Int) := by omega
  constructor
  · intro h2
    rcases Int.lt_or_le q.num 0 with h3 | h3
    · exact h3
    · have := Int.mul_nonneg h3 (Int.le_of_lt h1)
      omega
  · exact fun h2 => Int.mul_neg_of_neg_of_pos h2 h1
set_option maxHeartbeats 1000000 in
theorem lift_q {w : World} {va vn : Value} {q : Rat} {n : Nat} (h : IsQ w (Old w) va q) (hn : IsN w 0 w.heap.size vn n) (hs : Sz q 100000) (hl : (lim n).length ≤ 1000000) (h0 : 0 < n / q.den) : Calls Tryd.prog 102 #[va, vn] w (RetQ w ((q.num * ((n / q.den : Nat) : Int) : Int) : Rat)) := by
  have HQa := Lib.hid h
  obtain ⟨nega, Aa, cAa, Ba, cBa, rfl, Hnega, Hna, Hda⟩ := zai h
  have HN := Lib.hid hn
  obtain ⟨C, cn, rfl, hln⟩ := zft hn
  have Hs := Lib.hid hs
  have Hl := Lib.hid hl
  have Hr : Hid (raw ((q.num * ((n / q.den : Nat) : Int) : Int) : Rat) = ⟨nega, lim (q.num.natAbs * (n / q.den)), lim 1⟩) := by rw [Hid, Hnega.out]; exact raw_lift h0
  have Hd0 : Hid (0 < q.den) := q.den_pos
  clear h hn hs hl h0
  obtain ⟨w0, hw0, hb0, ra, rZ, Hz⟩ := zej w #[.bool nega, .slice Aa (lim q.num.natAbs).length cAa, .slice Ba (lim q.den).length cBa] #[.bool false, .slice none 0 0, .slice none 0 0] 50 50
  have Qa_0 := Lib.hid (IsQ.stb.next HQa.out hb0)
  have Ra_0 := Lib.hid (ra)
  have Z_0 := Lib.hid (rZ)
  have bw_0 := Lib.hid (hb0)
  have sz_0 : Hid (w.heap.size + 2 ≤ w0.heap.size) := Lib.hid (Nat.le_of_eq Hz.out.symm)
  clear ra rZ hb0
  obtain ⟨cRa0_1, cRa1_1, cRa2_1⟩ := zad Ra_0.out
  obtain ⟨cZ0_2, cZ1_2, cZ2_2⟩ := zad Z_0.out
  obtain ⟨fZ0_2, fZ1_2, fZ2_2⟩ := zax Z_0.out
  have N_0 := Lib.hid (IsN.next HN.out bw_0.out)
  go_enter Tryd.func102, Tryd.ntmps102
  go_wp2_with fail
  clear hw0
  have Qa_1 := Lib.hid (IsQ.stb.next Qa_0.out (zac _))
  have Ra_1 := Lib.hid (Row.next Ra_0.out (zac _))
  have Z_1 := Lib.hid (Row.next Z_0.out (zac _))
  have bw_1 := Lib.hid (zaa bw_0.out (zac _))
  have sz_1 := Lib.hid (zag sz_0.out (zac _))
  have N_1 := Lib.hid (IsN.next N_0.out (zac _))
  clear Qa_0 Ra_0 Z_0 bw_0 sz_0 N_0
  go_region_held3 (fun w' => w'.cell? ⟨w.heap.size, 0, none⟩ = some (.bool nega) ∧ w'.cell? ⟨w.heap.size, 1, none⟩ = some (.slice Aa (lim q.num.natAbs).length cAa) ∧ w'.cell? ⟨w.heap.size, 2, none⟩ = some (.slice Ba (lim q.den).length cBa))
    (first
      | exact ⟨cRa0_1, cRa1_1, cRa2_1⟩
      | exact ⟨cRa0_3, cRa1_3, cRa2_3⟩
      | exact ⟨cRa0_5, cRa1_5, cRa2_5⟩
      | exact ⟨cRa0_7, cRa1_7, cRa2_7⟩
      | exact ⟨zba cRa0_7 (by omega), zba cRa1_7 (by omega), zba cRa2_7 (by omega)⟩)
    (first
      | (go_at_call 119; have hc := zcl (zfs N_1.out) (zak (zcz Qa_1.out)) (Nat.le_trans Hl.out (by omega)) (Nat.le_trans Hs.out.2 (by omega)) Hd0.out; (with_reducible refine hc.mono ?_); clear hc; rintro e w1 ⟨⟨v1, rfl, hv1⟩, hb⟩; have newE1 := Lib.hid (hv1); have Qa_2 := Lib.hid (IsQ.stb.next Qa_1.out (hb)); have Ra_2 := Lib.hid (Row.next Ra_1.out (hb)); have Z_2 := Lib.hid (Row.next Z_1.out (hb)); have bw_2 := Lib.hid (zaa bw_1.out (hb)); have sz_2 := Lib.hid (zag sz_1.out (hb)); have N_2 := Lib.hid (IsN.next N_1.out (hb)); clear Qa_1 Ra_1 Z_1 bw_1 sz_1 N_1; have E1_0 := newE1; clear newE1; obtain ⟨P1, k1, rfl, _, _, _⟩ := id hv1; clear cRa0_1 cRa1_1 cRa2_1 cZ0_2 cZ1_2 cZ2_2 fZ0_2 fZ1_2 fZ2_2; obtain ⟨cRa0_3, cRa1_3, cRa2_3⟩ := zad Ra_2.out; obtain ⟨cZ0_4, cZ1_4, cZ2_4⟩ := zad Z_2.out; obtain ⟨fZ0_4, fZ1_4, fZ2_4⟩ := zax Z_2.out)
      | (go_at_call 97; have hc := mul_n (zak (zdi Qa_2.out)) (zak E1_0.out) (Nat.le_refl _) (Nat.le_refl _) (Nat.le_trans Hs.out.1 (by omega)) (Nat.le_trans (zcw Hl.out) (by omega)); (with_reducible refine hc.mono ?_); clear hc; rintro e w2 ⟨⟨v2, rfl, hv2⟩, hb⟩; have newV1 := Lib.hid (zbb hv2 sz_2.out); have Qa_3 := Lib.hid (IsQ.stb.next Qa_2.out (hb)); have Ra_3 := Lib.hid (Row.next Ra_2.out (hb)); have Z_3 := Lib.hid (Row.next Z_2.out (hb)); have bw_3 := Lib.hid (zaa bw_2.out (hb)); have sz_3 := Lib.hid (zag sz_2.out (hb)); have N_3 := Lib.hid (IsN.next N_2.out (hb)); have E1_1 := Lib.hid (IsK.stb.next E1_0.out (hb)); clear Qa_2 Ra_2 Z_2 bw_2 sz_2 N_2 E1_0; have V1_0 := newV1; clear newV1; obtain ⟨P2, k2, rfl, _, _, _⟩ := id hv2; clear cRa0_3 cRa1_3 cRa2_3 cZ0_4 cZ1_4 cZ2_4 fZ0_4 fZ1_4 fZ2_4; obtain ⟨cRa0_5, cRa1_5, cRa2_5⟩ := zad Ra_3.out; obtain ⟨cZ0_6, cZ1_6, cZ2_6⟩ := zad Z_3.out; obtain ⟨fZ0_6, fZ1_6, fZ2_6⟩ := zax Z_3.out)
      | (go_at_call 72; have hc := one_n w2; (with_reducible refine hc.mono ?_); clear hc; rintro e w3 ⟨⟨v3, rfl, hv3⟩, hb⟩; have newV2 := Lib.hid (zbb hv3 sz_3.out); have Qa_4 := Lib.hid (IsQ.stb.next Qa_3.out (hb)); have Ra_4 := Lib.hid (Row.next Ra_3.out (hb)); have Z_4 := Lib.hid (Row.next Z_3.out (hb)); have bw_4 := Lib.hid (zaa bw_3.out (hb)); have sz_4 := Lib.hid (zag sz_3.out (hb)); have N_4 := Lib.hid (IsN.next N_3.out (hb)); have E1_2 := Lib.hid (IsK.stb.next E1_1.out (hb)); have V1_1 := Lib.hid (IsK.stb.fresh V1_0.out (hb)); clear Qa_3 Ra_3 Z_3 bw_3 sz_3 N_3 E1_1 V1_0; have V2_0 := newV2; clear newV2; obtain ⟨P3, k3, rfl, _, _, _⟩ := id hv3; clear cRa0_5 cRa1_5 cRa2_5 cZ0_6 cZ1_6 cZ2_6 fZ0_6 fZ1_6 fZ2_6; obtain ⟨cRa0_7, cRa1_7, cRa2_7⟩ := zad Ra_4.out; obtain ⟨cZ0_8, cZ1_8, cZ2_8⟩ := zad Z_4.out; obtain ⟨fZ0_8, fZ1_8, fZ2_8⟩ := zax Z_4.out))
  go_wp2_with fail
  refine zbh Tryd.results102 rfl rfl (Row.put3 Z_4.out _ _ _) (retQ Hr.out bw_4.out (by omega) V1_1.out V2_0.out (by omega) (by omega))
set_option maxHeartbeats 1000000 in
theorem ratio_q {w : World} {vn vd : Value} {n d : Nat} {q : Rat} (s : Bool) (hn : IsN w 0 w.heap.size vn n) (hd : IsN w 0 w.heap.size vd d) (hB : Bru w) (hnl : (lim n).length ≤ 1000000) (hdl : (lim d).length ≤ 1000000) (hd0 : d ≠ 0) (hq : q = mkRat (sg s n) d) : Calls Tryd.prog 109 #[.bool s, vn, vd] w (RetQ w q) := by
  have HN := Lib.hid hn
  have HD := Lib.hid hd
  have HBr := Lib.hid hB
  have Hnl := Lib.hid hnl
  have Hdl := Lib.hid hdl
  have Hq := Lib.hid hq
  obtain ⟨A, ca, rfl, hla⟩ := zft hn
  obtain ⟨C, cb, rfl, hlb⟩ := zft hd
  clear hn hd hB hnl hdl hq
  by_cases hn0 : n = 0
  · have e0 : (((lim n).length : Int) == 0) = true := len_zero hn0
    have Hz0 : Hid (q = 0) := by rw [Hid, Hq.out, hn0, sg_zero]; simp
    clear hn0
    obtain ⟨w0, hw0, hb0, rZ, Hz⟩ := zbv w #[.bool false, .slice none 0 0, .slice none 0 0] 50
    have Z_0 := Lib.hid (rZ)
    have bw_0 := Lib.hid (hb0)
    have sz_0 : Hid (w.heap.size + 1 ≤ w0.heap.size) := Lib.hid (Nat.le_of_eq Hz.out.symm)
    clear rZ hb0
    obtain ⟨cZ0_1, cZ1_1, cZ2_1⟩ := zad Z_0.out
    obtain ⟨fZ0_1, fZ1_1, fZ2_1⟩ := zax Z_0.out
    go_enter Tryd.func109, Tryd.ntmps109
    go_wp2_with fail
    clear hw0
    refine (zero_q _).mono ?_
    rintro e w1 ⟨⟨v1, rfl, hv⟩, hb⟩
    have newV := Lib.hid (IsQ.stb.le hv sz_0.out)
    have Z_1 := Lib.hid (Row.next Z_0.out (hb))
    have bw_1 := Lib.hid (zaa bw_0.out (hb))
    have sz_1 := Lib.hid (zag sz_0.out (hb))
    clear Z_0 bw_0 sz_0
    have V_0 := newV
    clear newV
    obtain ⟨s1, P1, k1, O1, l1, rfl, _, _, _⟩ := zai hv
    clear cZ0_1 cZ1_1 cZ2_1 fZ0_1 fZ1_1 fZ2_1
    obtain ⟨cZ0_2, cZ1_2, cZ2_2⟩ := zad Z_1.out
    obtain ⟨fZ0_2, fZ1_2, fZ2_2⟩ := zax Z_1.out
    go_wp2_with fail
    rw [Hz0.out]
    refine zbh Tryd.results109 rfl rfl (Row.put3 Z_1.out _ _ _) (zfj V_0.out bw_1.out (by omega) (by omega))
  have e0 : (((lim n).length : Int) == 0) = false := zdq hn0
  have Hn0 := Lib.hid hn0
  have Hd0 := Lib.hid hd0
  clear hn0 hd0
  by_cases h2 : (lim n).length ≤ 2 ∧ (lim d).length ≤ 2
  · obtain ⟨h21, h22⟩ := h2
    have e1 : decide (((lim n).length : Int) ≤ 2) = true := by simp; omega
    have e2 : decide (((lim d).length : Int) ≤ 2) = true := by simp; omega
    have b1 : n < 1000000000000000000 := lt_of_two h21
    have b2 : d < 1000000000000000000 := lt_of_two h22
    have W1 := Lib.hid h21
    have W2 := Lib.hid h22
    obtain ⟨w0, hw0, hb0, rZ, Hz⟩ := zbv w #[.bool false, .slice none 0 0, .slice none 0 0] 50
    have Z_0 := Lib.hid (rZ)
    have bw_0 := Lib.hid (hb0)
    have sz_0 : Hid (w.heap.size + 1 ≤ w0.heap.size) := Lib.hid (Nat.le_of_eq Hz.out.symm)
    clear rZ hb0
    obtain ⟨cZ0_1, cZ1_1, cZ2_1⟩ := zad Z_0.out
    obtain ⟨fZ0_1, fZ1_1, fZ2_1⟩ := zax Z_0.out
    have N_0 := Lib.hid (IsN.next HN.out bw_0.out)
    have D_0 := Lib.hid (IsN.next HD.out bw_0.out)
    have B_0 := Lib.hid (Bru.next HBr.out bw_0.out)
    go_enter Tryd.func109, Tryd.ntmps109
    go_wp2_with fail
    clear hw0
    refine (word_n N_0.out W1.out).mono ?_
    rintro e w1 ⟨rfl, rfl⟩
    go_wp2_with fail
    refine (word_n D_0.out W2.out).mono ?_
    rintro e w1 ⟨rfl, rfl⟩
    go_wp2_with fail
    refine (words_q _ s n d B_0.out Hn0.out Hd0.out (by omega) (by omega)).mono ?_
    rintro e w1 ⟨⟨v1, rfl, hv⟩, hb⟩
    have newV := Lib.hid (IsQ.stb.le hv sz_0.out)
    have Z_1 := Lib.hid (Row.next Z_0.out (hb))
    have bw_1 := Lib.hid (zaa bw_0.out (hb))
    have sz_1 := Lib.hid (zag sz_0.out (hb))
    have N_1 := Lib.hid (IsN.next N_0.out (hb))
    have D_1 := Lib.hid (IsN.next D_0.out (hb))
    have B_1 := Lib.hid (Bru.next B_0.out (hb))
    clear Z_0 bw_0 sz_0 N_0 D_0 B_0
    have V_0 := newV
    clear newV
    obtain ⟨s1, P1, k1, O1, l1, rfl, _, _, _⟩ := zai hv
    clear cZ0_1 cZ1_1 cZ2_1 fZ0_1 fZ1_1 fZ2_1
    obtain ⟨cZ0_2, cZ1_2, cZ2_2⟩ := zad Z_1.out
    obtain ⟨fZ0_2, fZ1_2, fZ2_2⟩ := zax Z_1.out
    go_wp2_with fail
    rw [Hq.out]
    refine zbh Tryd.results109 rfl rfl (Row.put3 Z_1.out _ _ _) (zfj V_0.out bw_1.out (by omega) (by omega))
  rcases Nat.lt_or_ge 2 (lim n).length with h3 | h3
  · have e1 : decide (((lim n).length : Int) ≤ 2) = false := by simp; omega
    clear h2
    obtain ⟨G, hG⟩ : ∃ G, G = Nat.gcd n d := ⟨_, rfl⟩
    have Hr : Hid (raw q = ⟨s, lim (n / G), lim (d / G)⟩) := by rw [Hid, Hq.out, hG]; exact raw_ratio Hn0.out Hd0.out
    have HG := Lib.hid hG
    have HGp : Hid (0 < G) := by rw [Hid, hG]; exact zee _ Hd0.out
    have HGl : Hid ((lim G).length ≤ 1000000) := by rw [Hid, hG]; exact zew _ Hd0.out Hdl.out
    clear hG
    obtain ⟨w0, hw0, hb0, rZ, Hz⟩ := zbv w #[.bool false, .slice none 0 0, .slice none 0 0] 50
    have Z_0 := Lib.hid (rZ)
    have bw_0 := Lib.hid (hb0)
    have sz_0 : Hid (w.heap.size + 1 ≤ w0.heap.size) := Lib.hid (Nat.le_of_eq Hz.out.symm)
    clear rZ hb0
    obtain ⟨cZ0_1, cZ1_1, cZ2_1⟩ := zad Z_0.out
    obtain ⟨fZ0_1, fZ1_1, fZ2_1⟩ := zax Z_0.out
    have N_0 := Lib.hid (IsN.next HN.out bw_0.out)
    have D_0 := Lib.hid (IsN.next HD.out bw_0.out)
    have B_0 := Lib.hid (Bru.next HBr.out bw_0.out)
    go_enter Tryd.func109, Tryd.ntmps109
    go_wp2_with fail
    clear hw0
    refine (gcd_n N_0.out D_0.out B_0.out (Nat.le_trans Hnl.out (by omega)) (Nat.le_trans Hdl.out (by omega))).mono ?_
    rw [← HG.out]
    rintro e w1 ⟨⟨v1, rfl, hv1⟩, hb⟩
    have newG := Lib.hid (zbb hv1 sz_0.out)
    have Z_1 := Lib.hid (Row.next Z_0.out (hb))
    have bw_1 := Lib.hid (zaa bw_0.out (hb))
    have sz_1 := Lib.hid (zag sz_0.out (hb))
    have N_1 := Lib.hid (IsN.next N_0.out (hb))
    have D_1 := Lib.hid (IsN.next D_0.out (hb))
    have B_1 := Lib.hid (Bru.next B_0.out (hb))
    clear Z_0 bw_0 sz_0 N_0 D_0 B_0
    have G_0 := newG
    clear newG
    obtain ⟨P1, k1, rfl, _, _, _⟩ := id hv1
    clear cZ0_1 cZ1_1 cZ2_1 fZ0_1 fZ1_1 fZ2_1
    obtain ⟨cZ0_2, cZ1_2, cZ2_2⟩ := zad Z_1.out
    obtain ⟨fZ0_2, fZ1_2, fZ2_2⟩ := zax Z_1.out
    go_wp2_with fail
    refine (zcl (zfs N_1.out) (zak (IsK.stb.old G_0.out)) (Nat.le_trans Hnl.out (by omega)) (Nat.le_trans HGl.out (by omega)) HGp.out).mono ?_
    rintro e w2 ⟨⟨v2, rfl, hv2⟩, hb⟩
    have newE1 := Lib.hid (hv2)
    have Z_2 := Lib.hid (Row.next Z_1.out (hb))
    have bw_2 := Lib.hid (zaa bw_1.out (hb))
    have sz_2 := Lib.hid (zag sz_1.out (hb))
    have N_2 := Lib.hid (IsN.next N_1.out (hb))
    have D_2 := Lib.hid (IsN.next D_1.out (hb))
    have B_2 := Lib.hid (Bru.next B_1.out (hb))
    have G_1 := Lib.hid (IsK.stb.fresh G_0.out (hb))
    clear Z_1 bw_1 sz_1 N_1 D_1 B_1 G_0
    have E1_0 := newE1
    clear newE1
    obtain ⟨P2, k2, rfl, _, _, _⟩ := id hv2
    clear cZ0_2 cZ1_2 cZ2_2 fZ0_2 fZ1_2 fZ2_2
    obtain ⟨cZ0_3, cZ1_3, cZ2_3⟩ := zad Z_2.out
    obtain ⟨fZ0_3, fZ1_3, fZ2_3⟩ := zax Z_2.out
    go_wp2_with fail
    refine (copy_n (zak E1_0.out) (Nat.le_trans (zcw Hnl.out) (by omega))).mono ?_
    rintro e w3 ⟨⟨v3, rfl, hv3⟩, hb⟩
    have newV1 := Lib.hid (zbb hv3 sz_2.out)
    have Z_3 := Lib.hid (Row.next Z_2.out (hb))
    have bw_3 := Lib.hid (zaa bw_2.out (hb))
    have sz_3 := Lib.hid (zag sz_2.out (hb))
    have N_3 := Lib.hid (IsN.next N_2.out (hb))
    have D_3 := Lib.hid (IsN.next D_2.out (hb))
    have B_3 := Lib.hid (Bru.next B_2.out (hb))
    have G_2 := Lib.hid (IsK.stb.fresh G_1.out (hb))
    have E1_1 := Lib.hid (IsK.stb.next E1_0.out (hb))
    clear Z_2 bw_2 sz_2 N_2 D_2 B_2 G_1 E1_0
    have V1_0 := newV1
    clear newV1
    obtain ⟨P3, k3, rfl, _, _, _⟩ := id hv3
    clear cZ0_3 cZ1_3 cZ2_3 fZ0_3 fZ1_3 fZ2_3
    obtain ⟨cZ0_4, cZ1_4, cZ2_4⟩ := zad Z_3.out
    obtain ⟨fZ0_4, fZ1_4, fZ2_4⟩ := zax Z_3.out
    go_wp2_with fail
    refine (zcl (zfs D_3.out) (zak (IsK.stb.old G_2.out)) (Nat.le_trans Hdl.out (by omega)) (Nat.le_trans HGl.out (by omega)) HGp.out).mono ?_
    rintro e w4 ⟨⟨v4, rfl, hv4⟩, hb⟩
    have newE2 := Lib.hid (hv4)
    have Z_4 := Lib.hid (Row.next Z_3.out (hb))
    have bw_4 := Lib.hid (zaa bw_3.out (hb))
    have sz_4 := Lib.hid (zag sz_3.out (hb))
    have N_4 := Lib.hid (IsN.next N_3.out (hb))
    have D_4 := Lib.hid (IsN.next D_3.out (hb))
    have B_4 := Lib.hid (Bru.next B_3.out (hb))
    have G_3 := Lib.hid (IsK.stb.fresh G_2.out (hb))
    have E1_2 := Lib.hid (IsK.stb.next E1_1.out (hb))
    have V1_1 := Lib.hid (IsK.stb.fresh V1_0.out (hb))
    clear Z_3 bw_3 sz_3 N_3 D_3 B_3 G_2 E1_1 V1_0
    have E2_0 := newE2
    clear newE2
    obtain ⟨P4, k4, rfl, _, _, _⟩ := id hv4
    clear cZ0_4 cZ1_4 cZ2_4 fZ0_4 fZ1_4 fZ2_4
    obtain ⟨cZ0_5, cZ1_5, cZ2_5⟩ := zad Z_4.out
    obtain ⟨fZ0_5, fZ1_5, fZ2_5⟩ := zax Z_4.out
    go_wp2_with fail
    refine (copy_n (zak E2_0.out) (Nat.le_trans (zcw Hdl.out) (by omega))).mono ?_
    rintro e w5 ⟨⟨v5, rfl, hv5⟩, hb⟩
    have newV2 := Lib.hid (zbb hv5 sz_4.out)
    have Z_5 := Lib.hid (Row.next Z_4.out (hb))
    have bw_5 := Lib.hid (zaa bw_4.out (hb))
    have sz_5 := Lib.hid (zag sz_4.out (hb))
    have N_5 := Lib.hid (IsN.next N_4.out (hb))
    have D_5 := Lib.hid (IsN.next D_4.out (hb))
    have B_5 := Lib.hid (Bru.next B_4.out (hb))
    have G_4 := Lib.hid (IsK.stb.fresh G_3.out (hb))
    have E1_3 := Lib.hid (IsK.stb.next E1_2.out (hb))
    have V1_2 := Lib.hid (IsK.stb.fresh V1_1.out (hb))
    have E2_1 := Lib.hid (IsK.stb.next E2_0.out (hb))
    clear Z_4 bw_4 sz_4 N_4 D_4 B_4 G_3 E1_2 V1_1 E2_0
    have V2_0 := newV2
    clear newV2
    obtain ⟨P5, k5, rfl, _, _, _⟩ := id hv5
    clear cZ0_5 cZ1_5 cZ2_5 fZ0_5 fZ1_5 fZ2_5
    obtain ⟨cZ0_6, cZ1_6, cZ2_6⟩ := zad Z_5.out
    obtain ⟨fZ0_6, fZ1_6, fZ2_6⟩ := zax Z_5.out
    go_wp2_with fail
    refine zbh Tryd.results109 rfl rfl (Row.put3 Z_5.out _ _ _) (retQ Hr.out bw_5.out (by omega) V1_2.out V2_0.out (by omega) (by omega))
  · have e1 : decide (((lim n).length : Int) ≤ 2) = true := by simp; omega
    have e2 : decide (((lim d).length : Int) ≤ 2) = false := by simp; omega
    clear h2
    obtain ⟨G, hG⟩ : ∃ G, G = Nat.gcd n d := ⟨_, rfl⟩
    have Hr : Hid (raw q = ⟨s, lim (n / G), lim (d / G)⟩) := by rw [Hid, Hq.out, hG]; exact raw_ratio Hn0.out Hd0.out
    have HG := Lib.hid hG
    have HGp : Hid (0 < G) := by rw [Hid, hG]; exact zee _ Hd0.out
    have HGl : Hid ((lim G).length ≤ 1000000) := by rw [Hid, hG]; exact zew _ Hd0.out Hdl.out
    clear hG
    obtain ⟨w0, hw0, hb0, rZ, Hz⟩ := zbv w #[.bool false, .slice none 0 0, .slice none 0 0] 50
    have Z_0 := Lib.hid (rZ)
    have bw_0 := Lib.hid (hb0)
    have sz_0 : Hid (w.heap.size + 1 ≤ w0.heap.size) := Lib.hid (Nat.le_of_eq Hz.out.symm)
    clear rZ hb0
    obtain ⟨cZ0_1, cZ1_1, cZ2_1⟩ := zad Z_0.out
    obtain ⟨fZ0_1, fZ1_1, fZ2_1⟩ := zax Z_0.out
    have N_0 := Lib.hid (IsN.next HN.out bw_0.out)
    have D_0 := Lib.hid (IsN.next HD.out bw_0.out)
    have B_0 := Lib.hid (Bru.next HBr.out bw_0.out)
    go_enter Tryd.func109, Tryd.ntmps109
    go_wp2_with fail
    clear hw0
    refine (gcd_n N_0.out D_0.out B_0.out (Nat.le_trans Hnl.out (by omega)) (Nat.le_trans Hdl.out (by omega))).mono ?_
    rw [← HG.out]
    rintro e w1 ⟨⟨v1, rfl, hv1⟩, hb⟩
    have newG := Lib.hid (zbb hv1 sz_0.out)
    have Z_1 := Lib.hid (Row.next Z_0.out (hb))
    have bw_1 := Lib.hid (zaa bw_0.out (hb))
    have sz_1 := Lib.hid (zag sz_0.out (hb))
    have N_1 := Lib.hid (IsN.next N_0.out (hb))
    have D_1 := Lib.hid (IsN.next D_0.out (hb))
    have B_1 := Lib.hid (Bru.next B_0.out (hb))
    clear Z_0 bw_0 sz_0 N_0 D_0 B_0
    have G_0 := newG
    clear newG
    obtain ⟨P1, k1, rfl, _, _, _⟩ := id hv1
    clear cZ0_1 cZ1_1 cZ2_1 fZ0_1 fZ1_1 fZ2_1
    obtain ⟨cZ0_2, cZ1_2, cZ2_2⟩ := zad Z_1.out
    obtain ⟨fZ0_2, fZ1_2, fZ2_2⟩ := zax Z_1.out
    go_wp2_with fail
    refine (zcl (zfs N_1.out) (zak (IsK.stb.old G_0.out)) (Nat.le_trans Hnl.out (by omega)) (Nat.le_trans HGl.out (by omega)) HGp.out).mono ?_
    rintro e w2 ⟨⟨v2, rfl, hv2⟩, hb⟩
    have newE1 := Lib.hid (hv2)
    have Z_2 := Lib.hid (Row.next Z_1.out (hb))
    have bw_2 := Lib.hid (zaa bw_1.out (hb))
    have sz_2 := Lib.hid (zag sz_1.out (hb))
    have N_2 := Lib.hid (IsN.next N_1.out (hb))
    have D_2 := Lib.hid (IsN.next D_1.out (hb))
    have B_2 := Lib.hid (Bru.next B_1.out (hb))
    have G_1 := Lib.hid (IsK.stb.fresh G_0.out (hb))
    clear Z_1 bw_1 sz_1 N_1 D_1 B_1 G_0
    have E1_0 := newE1
    clear newE1
    obtain ⟨P2, k2, rfl, _, _, _⟩ := id hv2
    clear cZ0_2 cZ1_2 cZ2_2 fZ0_2 fZ1_2 fZ2_2
    obtain ⟨cZ0_3, cZ1_3, cZ2_3⟩ := zad Z_2.out
    obtain ⟨fZ0_3, fZ1_3, fZ2_3⟩ := zax Z_2.out
    go_wp2_with fail
    refine (copy_n (zak E1_0.out) (Nat.le_trans (zcw Hnl.out) (by omega))).mono ?_
    rintro e w3 ⟨⟨v3, rfl, hv3⟩, hb⟩
    have newV1 := Lib.hid (zbb hv3 sz_2.out)
    have Z_3 := Lib.hid (Row.next Z_2.out (hb))
    have bw_3 := Lib.hid (zaa bw_2.out (hb))
    have sz_3 := Lib.hid (zag sz_2.out (hb))
    have N_3 := Lib.hid (IsN.next N_2.out (hb))
    have D_3 := Lib.hid (IsN.next D_2.out (hb))
    have B_3 := Lib.hid (Bru.next B_2.out (hb))
    have G_2 := Lib.hid (IsK.stb.fresh G_1.out (hb))
    have E1_1 := Lib.hid (IsK.stb.next E1_0.out (hb))
    clear Z_2 bw_2 sz_2 N_2 D_2 B_2 G_1 E1_0
    have V1_0 := newV1
    clear newV1
    obtain ⟨P3, k3, rfl, _, _, _⟩ := id hv3
    clear cZ0_3 cZ1_3 cZ2_3 fZ0_3 fZ1_3 fZ2_3
    obtain ⟨cZ0_4, cZ1_4, cZ2_4⟩ := zad Z_3.out
    obtain ⟨fZ0_4, fZ1_4, fZ2_4⟩ := zax Z_3.out
    go_wp2_with fail
    refine (zcl (zfs D_3.out) (zak (IsK.stb.old G_2.out)) (Nat.le_trans Hdl.out (by omega)) (Nat.le_trans HGl.out (by omega)) HGp.out).mono ?_
    rintro e w4 ⟨⟨v4, rfl, hv4⟩, hb⟩
    have newE2 := Lib.hid (hv4)
    have Z_4 := Lib.hid (Row.next Z_3.out (hb))
    have bw_4 := Lib.hid (zaa bw_3.out (hb))
    have sz_4 := Lib.hid (zag sz_3.out (hb))
    have N_4 := Lib.hid (IsN.next N_3.out (hb))
    have D_4 := Lib.hid (IsN.next D_3.out (hb))
    have B_4 := Lib.hid (Bru.next B_3.out (hb))
    have G_3 := Lib.hid (IsK.stb.fresh G_2.out (hb))
    have E1_2 := Lib.hid (IsK.stb.next E1_1.out (hb))
    have V1_1 := Lib.hid (IsK.stb.fresh V1_0.out (hb))
    clear Z_3 bw_3 sz_3 N_3 D_3 B_3 G_2 E1_1 V1_0
    have E2_0 := newE2
    clear newE2
    obtain ⟨P4, k4, rfl, _, _, _⟩ := id hv4
    clear cZ0_4 cZ1_4 cZ2_4 fZ0_4 fZ1_4 fZ2_4
    obtain ⟨cZ0_5, cZ1_5, cZ2_5⟩ := zad Z_4.out
    obtain ⟨fZ0_5, fZ1_5, fZ2_5⟩ := zax Z_4.out
    go_wp2_with fail
    refine (copy_n (zak E2_0.out) (Nat.le_trans (zcw Hdl.out) (by omega))).mono ?_
    rintro e w5 ⟨⟨v5, rfl, hv5⟩, hb⟩
    have newV2 := Lib.hid (zbb hv5 sz_4.out)
    have Z_5 := Lib.hid (Row.next Z_4.out (hb))
    have bw_5 := Lib.hid (zaa bw_4.out (hb))
    have sz_5 := Lib.hid (zag sz_4.out (hb))
    have N_5 := Lib.hid (IsN.next N_4.out (hb))
    have D_5 := Lib.hid (IsN.next D_4.out (hb))
    have B_5 := Lib.hid (Bru.next B_4.out (hb))
    have G_4 := Lib.hid (IsK.stb.fresh G_3.out (hb))
    have E1_3 := Lib.hid (IsK.stb.next E1_2.out (hb))
    have V1_2 := Lib.hid (IsK.stb.fresh V1_1.out (hb))
    have E2_1 := Lib.hid (IsK.stb.next E2_0.out (hb))
    clear Z_4 bw_4 sz_4 N_4 D_4 B_4 G_3 E1_2 V1_1 E2_0
    have V2_0 := newV2
    clear newV2
    obtain ⟨P5, k5, rfl, _, _, _⟩ := id hv5
    clear cZ0_5 cZ1_5 cZ2_5 fZ0_5 fZ1_5 fZ2_5
    obtain ⟨cZ0_6, cZ1_6, cZ2_6⟩ := zad Z_5.out
    obtain ⟨fZ0_6, fZ1_6, fZ2_6⟩ := zax Z_5.out
    go_wp2_with fail
    refine zbh Tryd.results109 rfl rfl (Row.put3 Z_5.out _ _ _) (retQ Hr.out bw_5.out (by omega) V1_2.out V2_0.out (by omega) (by omega))
theorem boxes4 (w : World) (c1 c2 c3 c4 : Array Value) (t1 t2 t3 t4 : TypeId) : ∃ w0, (((w.alloc (.cells c1 t1)).alloc (.cells c2 t2)).alloc (.cells c3 t3)).alloc (.cells c4 t4) = w0 ∧ Below w.heap.size w w0 ∧ Row w0 w.heap.size t1 c1.toList ∧ Row w0 (w.heap.size + 1) t2 c2.toList ∧
    Row w0 (w.heap.size + 2) t3 c3.toList ∧ Row w0 (w.heap.size + 3) t4 c4.toList ∧ Hid (w0.heap.size = w.heap.size + 4) := by
  obtain ⟨w1, rfl, h1, h2, h3, h4, h5⟩ := zfm w c1 c2 c3 t1 t2 t3
  obtain ⟨w2, rfl, k1, k2, k3⟩ := zbv (((w.alloc (.cells c1 t1)).alloc (.cells c2 t2)).alloc (.cells c3 t3)) c4 t4
  have h5' := h5.out
  rw [h5'] at k2 k3
  exact ⟨_, rfl, zaa h1 k1, h2.next k1, h3.next k1, h4.next k1, k2, k3⟩
set_option maxHeartbeats 1000000 in
theorem dot1_q {w : World} {va vb vc : Value} {qa qb qc : Rat} (ha : IsQ w (Old w) va qa) (hb : IsQ w (Old w) vb qb) (hc : IsQ w (Old w) vc qc) (hB : Bru w) (sa : Sz qa 100000) (sb : Sz qb 100000) (sc : Sz qc 100000) (sp : Sz (qb * qc) 100000) : Calls Tryd.prog 111 #[va, vb, vc] w (RetQ w (qa + qb * qc)) := by
  have HQa := Lib.hid ha
  obtain ⟨nega, Aa, cAa, Ba, cBa, rfl, Hnega, Hna, Hda⟩ := zai ha
  have HQb := Lib.hid hb
  obtain ⟨negb, Ab, cAb, Bb, cBb, rfl, Hnegb, Hnb, Hdb⟩ := zai hb
  have HQc := Lib.hid hc
  obtain ⟨negc, Ac, cAc, Bc, cBc, rfl, Hnegc, Hnc, Hdc⟩ := zai hc
  have HB := Lib.hid hB
  have Hsa := Lib.hid sa
  have Hsb := Lib.hid sb
  have Hsc := Lib.hid sc
  have Hsp := Lib.hid sp
  clear ha hb hc hB sa sb sc sp
  obtain ⟨w0, hw0, hb0, ra, rb, rc, rZ, Hz⟩ := boxes4 w #[.bool nega, .slice Aa (lim qa.num.natAbs).length cAa, .slice Ba (lim qa.den).length cBa] #[.bool negb, .slice Ab (lim qb.num.natAbs).length cAb, .slice Bb (lim qb.den).length cBb] #[.bool negc, .slice Ac (lim qc.num.natAbs).length cAc, .slice Bc (lim qc.den).length cBc] #[.bool false, .slice none 0 0, .slice none 0 0] 50 50 50 50
  have Qa_0 := Lib.hid (IsQ.stb.next HQa.out hb0)
  have Ra_0 := Lib.hid (ra)
  have Qb_0 := Lib.hid (IsQ.stb.next HQb.out hb0)
  have Rb_0 := Lib.hid (rb)
  have Qc_0 := Lib.hid (IsQ.stb.next HQc.out hb0)
  have Rc_0 := Lib.hid (rc)
  have Z_0 := Lib.hid (rZ)
  have bw_0 := Lib.hid (hb0)
  have sz_0 : Hid (w.heap.size + 4 ≤ w0.heap.size) := Lib.hid (Nat.le_of_eq Hz.out.symm)
  clear ra rb rc rZ hb0
  obtain ⟨cRa0_1, cRa1_1, cRa2_1⟩ := zad Ra_0.out
  obtain ⟨cRb0_2, cRb1_2, cRb2_2⟩ := zad Rb_0.out
  obtain ⟨cRc0_3, cRc1_3, cRc2_3⟩ := zad Rc_0.out
  obtain ⟨cZ0_4, cZ1_4, cZ2_4⟩ := zad Z_0.out
  obtain ⟨fZ0_4, fZ1_4, fZ2_4⟩ := zax Z_0.out
  have B_0 := Lib.hid (Bru.next HB.out bw_0.out)
  go_enter Tryd.func111, Tryd.ntmps111
  go_wp2_with fail
  clear hw0
  have Qa_1 := Lib.hid (IsQ.stb.next Qa_0.out (zac _))
  have Ra_1 := Lib.hid (Row.next Ra_0.out (zac _))
  have Qb_1 := Lib.hid (IsQ.stb.next Qb_0.out (zac _))
  have Rb_1 := Lib.hid (Row.next Rb_0.out (zac _))
  have Qc_1 := Lib.hid (IsQ.stb.next Qc_0.out (zac _))
  have Rc_1 := Lib.hid (Row.next Rc_0.out (zac _))
  have Z_1 := Lib.hid (Row.next Z_0.out (zac _))
  have bw_1 := Lib.hid (zaa bw_0.out (zac _))
  have sz_1 := Lib.hid (zag sz_0.out (zac _))
  have B_1 := Lib.hid (Bru.next B_0.out (zac _))
  clear Qa_0 Ra_0 Qb_0 Rb_0 Qc_0 Rc_0 Z_0 bw_0 sz_0 B_0
  go_region_held3 (fun w' => w'.cell? ⟨w.heap.size, 0, none⟩ = some (.bool nega) ∧ w'.cell? ⟨w.heap.size, 1, none⟩ = some (.slice Aa (lim qa.num.natAbs).length cAa) ∧ w'.cell? ⟨w.heap.size, 2, none⟩ = some (.slice Ba (lim qa.den).length cBa) ∧ w'.cell? ⟨w.heap.size + 1, 0, none⟩ = some (.bool negb) ∧ w'.cell? ⟨w.heap.size + 1, 1, none⟩ = some (.slice Ab (lim qb.num.natAbs).length cAb) ∧ w'.cell? ⟨w.heap.size + 1, 2, none⟩ = some (.slice Bb (lim qb.den).length cBb) ∧ w'.cell? ⟨w.heap.size + 2, 0, none⟩ = some (.bool negc) ∧ w'.cell? ⟨w.heap.size + 2, 1, none⟩ = some (.slice Ac (lim qc.num.natAbs).length cAc) ∧ w'.cell? ⟨w.heap.size + 2, 2, none⟩ = some (.slice Bc (lim qc.den).length cBc))
    (first
      | exact ⟨cRa0_1, cRa1_1, cRa2_1, cRb0_2, cRb1_2, cRb2_2, cRc0_3, cRc1_3, cRc2_3⟩
      | exact ⟨cRa0_5, cRa1_5, cRa2_5, cRb0_6, cRb1_6, cRb2_6, cRc0_7, cRc1_7, cRc2_7⟩
      | exact ⟨cRa0_9, cRa1_9, cRa2_9, cRb0_10, cRb1_10, cRb2_10, cRc0_11, cRc1_11, cRc2_11⟩
      | exact ⟨zba cRa0_9 (by omega), zba cRa1_9 (by omega), zba cRa2_9 (by omega), zba cRb0_10 (by omega), zba cRb1_10 (by omega), zba cRb2_10 (by omega), zba cRc0_11 (by omega), zba cRc1_11 (by omega), zba cRc2_11 (by omega)⟩)
    (first
      | (go_at_call 91; have hc := times_q Qb_1.out Qc_1.out B_1.out Hsb.out Hsc.out rfl; (with_reducible refine hc.mono ?_); clear hc; rintro e w1 ⟨⟨v1, rfl, hv1⟩, hb⟩; have newP := Lib.hid (IsQ.stb.le hv1 sz_1.out); have Qa_2 := Lib.hid (IsQ.stb.next Qa_1.out (hb)); have Ra_2 := Lib.hid (Row.next Ra_1.out (hb)); have Qb_2 := Lib.hid (IsQ.stb.next Qb_1.out (hb)); have Rb_2 := Lib.hid (Row.next Rb_1.out (hb)); have Qc_2 := Lib.hid (IsQ.stb.next Qc_1.out (hb)); have Rc_2 := Lib.hid (Row.next Rc_1.out (hb)); have Z_2 := Lib.hid (Row.next Z_1.out (hb)); have bw_2 := Lib.hid (zaa bw_1.out (hb)); have sz_2 := Lib.hid (zag sz_1.out (hb)); have B_2 := Lib.hid (Bru.next B_1.out (hb)); clear Qa_1 Ra_1 Qb_1 Rb_1 Qc_1 Rc_1 Z_1 bw_1 sz_1 B_1; have P_0 := newP; clear newP; obtain ⟨s1, P1, k1, O1, l1, rfl, _, _, _⟩ := zai hv1; clear cRa0_1 cRa1_1 cRa2_1 cRb0_2 cRb1_2 cRb2_2 cRc0_3 cRc1_3 cRc2_3 cZ0_4 cZ1_4 cZ2_4 fZ0_4 fZ1_4 fZ2_4; obtain ⟨cRa0_5, cRa1_5, cRa2_5⟩ := zad Ra_2.out; obtain ⟨cRb0_6, cRb1_6, cRb2_6⟩ := zad Rb_2.out; obtain ⟨cRc0_7, cRc1_7, cRc2_7⟩ := zad Rc_2.out; obtain ⟨cZ0_8, cZ1_8, cZ2_8⟩ := zad Z_2.out; obtain ⟨fZ0_8, fZ1_8, fZ2_8⟩ := zax Z_2.out)
      | (go_at_call 89; have hc := plus_q Qa_2.out (IsQ.stb.old P_0.out) B_2.out Hsa.out Hsp.out rfl; (with_reducible refine hc.mono ?_); clear hc; rintro e w2 ⟨⟨v2, rfl, hv2⟩, hb⟩; have newU := Lib.hid (IsQ.stb.le hv2 sz_2.out); have Qa_3 := Lib.hid (IsQ.stb.next Qa_2.out (hb)); have Ra_3 := Lib.hid (Row.next Ra_2.out (hb)); have Qb_3 := Lib.hid (IsQ.stb.next Qb_2.out (hb)); have Rb_3 := Lib.hid (Row.next Rb_2.out (hb)); have Qc_3 := Lib.hid (IsQ.stb.next Qc_2.out (hb)); have Rc_3 := Lib.hid (Row.next Rc_2.out (hb)); have Z_3 := Lib.hid (Row.next Z_2.out (hb)); have bw_3 := Lib.hid (zaa bw_2.out (hb)); have sz_3 := Lib.hid (zag sz_2.out (hb)); have B_3 := Lib.hid (Bru.next B_2.out (hb)); have P_1 := Lib.hid (IsQ.stb.fresh P_0.out (hb)); clear Qa_2 Ra_2 Qb_2 Rb_2 Qc_2 Rc_2 Z_2 bw_2 sz_2 B_2 P_0; have U_0 := newU; clear newU; obtain ⟨s2, P2, k2, O2, l2, rfl, _, _, _⟩ := zai hv2; clear cRa0_5 cRa1_5 cRa2_5 cRb0_6 cRb1_6 cRb2_6 cRc0_7 cRc1_7 cRc2_7 cZ0_8 cZ1_8 cZ2_8 fZ0_8 fZ1_8 fZ2_8; obtain ⟨cRa0_9, cRa1_9, cRa2_9⟩ := zad Ra_3.out; obtain ⟨cRb0_10, cRb1_10, cRb2_10⟩ := zad Rb_3.out; obtain ⟨cRc0_11, cRc1_11, cRc2_11⟩ := zad Rc_3.out; obtain ⟨cZ0_12, cZ1_12, cZ2_12⟩ := zad Z_3.out; obtain ⟨fZ0_12, fZ1_12, fZ2_12⟩ := zax Z_3.out))
  go_wp2_with fail
  refine zbh Tryd.results111 rfl rfl (Row.put3 Z_3.out _ _ _) (zfj U_0.out bw_3.out (by omega) (by omega))
theorem zed {w : World} {v : Value} {m : List (List Raw)} (h : IsM w (Old w) v m) : Calls Tryd.prog 67 #[v] w fun e w' => e = .returned (.int .i64 ((m.headD []).length : Int)) ∧ w = w' := by
  have H := Lib.hid h
  obtain ⟨A, c, rfl, hl⟩ := zck h
  clear h
  cases m with
  | nil =>
    go_enter Tryd.func67, Tryd.ntmps67
    go_wp2_with fail
    go_ret
    exact ⟨rfl, rfl⟩
  | cons r t =>
    obtain ⟨b, o, B, d, rfl, hb, hr, hc⟩ := zcy H.out (j := 0) (l := r) rfl
    have hlt : (0 : Int) < ((t.length : Int) + 1) := by omega
    have hne : ¬ ((t.length : Int) + 1 = 0) := by omega
    simp at hc hl
    clear H
    go_enter Tryd.func67, Tryd.ntmps67
    go_wp2_with fail
    go_ret
    exact ⟨rfl, rfl⟩
def bothE (a b : List Raw) : Int := if chkV a ≠ 0 then chkV a else if chkV b ≠ 0 then chkV b else if a.length ≠ b.length then 10 else 0
set_option maxHeartbeats 1000000 in
theorem vboth_l {w : World} {va vb : Value} {a b : List Raw} (ha : IsV w (Old w) va a) (hb : IsV w (Old w) vb b) (hB : Bru w) : Calls Tryd.prog 86 #[va, vb] w fun e w' => e = .returned (.int .i64 (bothE a b)) ∧ Below w.heap.size w w' := by
  obtain ⟨A, cA, rfl, hla⟩ := zav ha
  obtain ⟨B, cB, rfl, hlb⟩ := zav hb
  have HA := Lib.hid ha
  have HV := Lib.hid hb
  have HB := Lib.hid hB
  obtain ⟨x, hx⟩ : ∃ x, x = chkV a := ⟨_, rfl⟩
  obtain ⟨y, hy⟩ : ∃ y, y = chkV b := ⟨_, rfl⟩
  have Hx := Lib.hid hx
  have Hy := Lib.hid hy
  clear ha hb hB
  go_enter Tryd.func86, Tryd.ntmps86
  go_wp2_with fail
  refine (zff HA.out HB.out).mono ?_
  rintro e w1 ⟨rfl, hb1⟩
  rw [← Hx.out]
  have HB1 := Lib.hid hb1
  clear hb1 hx hy
  by_cases h1 : x = 0
  · subst h1
    go_wp2_with fail
    refine (zff (IsV.stb.to HV.out (zam HB1.out)) (Bru.next HB.out HB1.out)).mono ?_
    rintro e w2 ⟨rfl, hb2⟩
    rw [← Hy.out]
    have HB2 := Lib.hid (zaa HB1.out hb2)
    clear hb2
    by_cases h2 : y = 0
    · subst h2
      by_cases h3 : a.length = b.length
      · have h4 : (a.length : Int) = (b.length : Int) := by rw [h3]
        go_wp2_with fail
        go_ret
        exact ⟨by rw [bothE, ← Hx.out, ← Hy.out, if_neg (by simp), if_neg (by simp), if_neg (by simpa using h3)]; rfl, HB2.out⟩
      · have h4 : ¬ ((a.length : Int) = (b.length : Int)) := by omega
        go_wp2_with fail
        go_ret
        exact ⟨by rw [bothE, ← Hx.out, ← Hy.out, if_neg (by simp), if_neg (by simp), if_pos (by simpa using h3)]; rfl, HB2.out⟩
    · go_wp2_with fail
      go_ret
      exact ⟨by rw [bothE, ← Hx.out, ← Hy.out, if_neg (by simp), if_pos h2]; rfl, HB2.out⟩
  · go_wp2_with fail
    go_ret
    exact ⟨by rw [bothE, ← Hx.out, if_pos h1]; rfl, HB1.out⟩
def crossZ (a p b c : Int) (d : Nat) : Int := (a * p - b * c).tdiv (d : Int)
theorem sg_tdiv (s : Bool) (n d : Nat) : (sg s n).tdiv (d : Int) = sg s (n / d) := by
  cases s
  · rw [sg_false, sg_false, Int.ofNat_tdiv]
  · rw [sg_true, sg_true, Int.neg_tdiv, Int.ofNat_tdiv]
theorem cross_sum {a p b c : Int} {na np nb nc : Bool} (ha : na = decide (a < 0)) (hp : np = decide (p < 0)) (hb : nb = decide (b < 0)) (hc : nc = decide (c < 0)) {s : Bool} {n : Nat}
    (h : sg s n = sg (!(na == np)) (a.natAbs * p.natAbs) + sg (nb == nc) (b.natAbs * c.natAbs)) (d : Nat) : crossZ a p b c d = sg s (n / d) := by
  have h1 : sg (!(na == np)) (a.natAbs * p.natAbs) = a * p := by
    rw [show (!(na == np)) = (na != np) from rfl, sg_mul, ha, hp, sg_of, sg_of]
  have h2 : sg (nb == nc) (b.natAbs * c.natAbs) = -(b * c) := by
    rw [show (nb == nc) = !(nb != nc) by simp [bne], sg_not, sg_mul, hb, hc, sg_of, sg_of]
  unfold crossZ
  rw [show a * p - b * c = sg s n by rw [h, h1, h2]; omega, sg_tdiv]
theorem raw_sg (s : Bool) (n : Nat) : raw ((sg s n : Int) : Rat) = ⟨s && decide (0 < n), lim n, lim 1⟩ := by
  rw [raw_int, sg_natAbs]
  congr 1
  rcases Nat.eq_zero_or_pos n with h | h
  · subst h; simp [sg_zero]
  · rw [sg_neg (by omega)]; simp [h]
set_option maxRecDepth 100000 in
set_option maxHeartbeats 4000000 in
theorem cross_q {w : World} {va vp vb vc vd : Value} {qa qp qb qc : Rat} {d : Nat} (ha : IsQ w (Old w) va qa) (hp : IsQ w (Old w) vp qp) (hb : IsQ w (Old w) vb qb) (hc : IsQ w (Old w) vc qc) (hd : IsN w 0 w.heap.size vd d)
    (sa : Sz qa 500000) (sp : Sz qp 500000) (sb : Sz qb 500000) (sc : Sz qc 500000) (hdl : (lim d).length ≤ 1000000) (hd0 : 0 < d) : Calls Tryd.prog 128 #[va, vp, vb, vc, vd] w (RetQ w ((crossZ qa.num qp.num qb.num qc.num d : Int) : Rat)) := by
  have HQa := Lib.hid ha
  obtain ⟨nega, Aa, cAa, Ba, cBa, rfl, Hnega, Hna, Hda⟩ := zai ha
  have HQp := Lib.hid hp
  obtain ⟨negp, Ap, cAp, Bp, cBp, rfl, Hnegp, Hnp, Hdp⟩ := zai hp
  have HQb := Lib.hid hb
  obtain ⟨negb, Ab, cAb, Bb, cBb, rfl, Hnegb, Hnb, Hdb⟩ := zai hb
  have HQc := Lib.hid hc
  obtain ⟨negc, Ac, cAc, Bc, cBc, rfl, Hnegc, Hnc, Hdc⟩ := zai hc
  have HD := Lib.hid hd
  obtain ⟨C, cd, rfl, hld⟩ := zft hd
  have Hsa := Lib.hid sa.1
  have Hsp := Lib.hid sp.1
  have Hsb := Lib.hid sb.1
  have Hsc := Lib.hid sc.1
  have Hdl := Lib.hid hdl
  have Hd0 := Lib.hid hd0
  obtain ⟨s1, hs1⟩ : ∃ s1 : Bool, (!(nega == negp)) = s1 := ⟨_, rfl⟩
  obtain ⟨s2, hs2⟩ : ∃ s2 : Bool, (negb == negc) = s2 := ⟨_, rfl⟩
  have HC : Hid (∀ s n, sg s n = sg s1 (qa.num.natAbs * qp.num.natAbs) + sg s2 (qb.num.natAbs * qc.num.natAbs) → crossZ qa.num qp.num qb.num qc.num d = sg s (n / d)) := by
    intro s n h
    rw [← hs1, ← hs2] at h
    exact cross_sum Hnega.out Hnegp.out Hnegb.out Hnegc.out h d
  clear ha hp hb hc hd sa sp sb sc hdl hd0
  obtain ⟨w0, hw0, hb0, ra, rp, rb, rc, rZ, Hz⟩ := boxes5 w #[.bool nega, .slice Aa (lim qa.num.natAbs).length cAa, .slice Ba (lim qa.den).length cBa] #[.bool negp, .slice Ap (lim qp.num.natAbs).length cAp, .slice Bp (lim qp.den).length cBp] #[.bool negb, .slice Ab (lim qb.num.natAbs).length cAb, .slice Bb (lim qb.den).length cBb] #[.bool negc, .slice Ac (lim qc.num.natAbs).length cAc, .slice Bc (lim qc.den).length cBc] #[.bool false, .slice none 0 0, .slice none 0 0] 50 50 50 50 50
  have Qa_0 := Lib.hid (IsQ.stb.next HQa.out hb0)
  have Ra_0 := Lib.hid (ra)
  have Qp_0 := Lib.hid (IsQ.stb.next HQp.out hb0)
  have Rp_0 := Lib.hid (rp)
  have Qb_0 := Lib.hid (IsQ.stb.next HQb.out hb0)
  have Rb_0 := Lib.hid (rb)
  have Qc_0 := Lib.hid (IsQ.stb.next HQc.out hb0)
  have Rc_0 := Lib.hid (rc)
  have Z_0 := Lib.hid (rZ)
  have bw_0 := Lib.hid (hb0)
  have sz_0 : Hid (w.heap.size + 5 ≤ w0.heap.size) := Lib.hid (Nat.le_of_eq Hz.out.symm)
  clear ra rp rb rc rZ hb0
  obtain ⟨cRa0_1, cRa1_1, cRa2_1⟩ := zad Ra_0.out
  obtain ⟨cRp0_2, cRp1_2, cRp2_2⟩ := zad Rp_0.out
  obtain ⟨cRb0_3, cRb1_3, cRb2_3⟩ := zad Rb_0.out
  obtain ⟨cRc0_4, cRc1_4, cRc2_4⟩ := zad Rc_0.out
  obtain ⟨cZ0_5, cZ1_5, cZ2_5⟩ := zad Z_0.out
  obtain ⟨fZ0_5, fZ1_5, fZ2_5⟩ := zax Z_0.out
  have D_0 := Lib.hid (IsN.next HD.out bw_0.out)
  go_enter Tryd.func128, Tryd.ntmps128
  go_wp2_with fail
  clear hw0
  have Qa_1 := Lib.hid (IsQ.stb.next Qa_0.out (zac _))
  have Ra_1 := Lib.hid (Row.next Ra_0.out (zac _))
  have Qp_1 := Lib.hid (IsQ.stb.next Qp_0.out (zac _))
  have Rp_1 := Lib.hid (Row.next Rp_0.out (zac _))
  have Qb_1 := Lib.hid (IsQ.stb.next Qb_0.out (zac _))
  have Rb_1 := Lib.hid (Row.next Rb_0.out (zac _))
  have Qc_1 := Lib.hid (IsQ.stb.next Qc_0.out (zac _))
  have Rc_1 := Lib.hid (Row.next Rc_0.out (zac _))
  have Z_1 := Lib.hid (Row.next Z_0.out (zac _))
  have bw_1 := Lib.hid (zaa bw_0.out (zac _))
  have sz_1 := Lib.hid (zag sz_0.out (zac _))
  have D_1 := Lib.hid (IsN.next D_0.out (zac _))
  clear Qa_0 Ra_0 Qp_0 Rp_0 Qb_0 Rb_0 Qc_0 Rc_0 Z_0 bw_0 sz_0 D_0
  go_region_held3 (fun w' => w'.cell? ⟨w.heap.size, 0, none⟩ = some (.bool nega) ∧ w'.cell? ⟨w.heap.size, 1, none⟩ = some (.slice Aa (lim qa.num.natAbs).length cAa) ∧ w'.cell? ⟨w.heap.size + 1, 0, none⟩ = some (.bool negp) ∧ w'.cell? ⟨w.heap.size + 1, 1, none⟩ = some (.slice Ap (lim qp.num.natAbs).length cAp) ∧ w'.cell? ⟨w.heap.size + 2, 0, none⟩ = some (.bool negb) ∧ w'.cell? ⟨w.heap.size + 2, 1, none⟩ = some (.slice Ab (lim qb.num.natAbs).length cAb) ∧ w'.cell? ⟨w.heap.size + 3, 0, none⟩ = some (.bool negc) ∧ w'.cell? ⟨w.heap.size + 3, 1, none⟩ = some (.slice Ac (lim qc.num.natAbs).length cAc))
    (first
      | exact ⟨cRa0_1, cRa1_1, cRp0_2, cRp1_2, cRb0_3, cRb1_3, cRc0_4, cRc1_4⟩
      | exact ⟨cRa0_6, cRa1_6, cRp0_7, cRp1_7, cRb0_8, cRb1_8, cRc0_9, cRc1_9⟩
      | exact ⟨cRa0_11, cRa1_11, cRp0_12, cRp1_12, cRb0_13, cRb1_13, cRc0_14, cRc1_14⟩
      | exact ⟨cRa0_16, cRa1_16, cRp0_17, cRp1_17, cRb0_18, cRb1_18, cRc0_19, cRc1_19⟩)
    (first
      | (go_at_call 97; have hc := mul_n (zak (zdi Qa_1.out)) (zak (zdi Qp_1.out)) (Nat.le_refl _) (Nat.le_refl _) (Nat.le_trans Hsa.out (by omega)) (Nat.le_trans Hsp.out (by omega)); (with_reducible refine hc.mono ?_); clear hc; rintro e w1 ⟨⟨v1, rfl, hv1⟩, hb⟩; have newM1 := Lib.hid (zbb hv1 sz_1.out); have Qa_2 := Lib.hid (IsQ.stb.next Qa_1.out (hb)); have Ra_2 := Lib.hid (Row.next Ra_1.out (hb)); have Qp_2 := Lib.hid (IsQ.stb.next Qp_1.out (hb)); have Rp_2 := Lib.hid (Row.next Rp_1.out (hb)); have Qb_2 := Lib.hid (IsQ.stb.next Qb_1.out (hb)); have Rb_2 := Lib.hid (Row.next Rb_1.out (hb)); have Qc_2 := Lib.hid (IsQ.stb.next Qc_1.out (hb)); have Rc_2 := Lib.hid (Row.next Rc_1.out (hb)); have Z_2 := Lib.hid (Row.next Z_1.out (hb)); have bw_2 := Lib.hid (zaa bw_1.out (hb)); have sz_2 := Lib.hid (zag sz_1.out (hb)); have D_2 := Lib.hid (IsN.next D_1.out (hb)); clear Qa_1 Ra_1 Qp_1 Rp_1 Qb_1 Rb_1 Qc_1 Rc_1 Z_1 bw_1 sz_1 D_1; have M1_0 := newM1; clear newM1; obtain ⟨P1, k1, rfl, _, _, _⟩ := id hv1; clear cRa0_1 cRa1_1 cRa2_1 cRp0_2 cRp1_2 cRp2_2 cRb0_3 cRb1_3 cRb2_3 cRc0_4 cRc1_4 cRc2_4 cZ0_5 cZ1_5 cZ2_5 fZ0_5 fZ1_5 fZ2_5; obtain ⟨cRa0_6, cRa1_6, cRa2_6⟩ := zad Ra_2.out; obtain ⟨cRp0_7, cRp1_7, cRp2_7⟩ := zad Rp_2.out; obtain ⟨cRb0_8, cRb1_8, cRb2_8⟩ := zad Rb_2.out; obtain ⟨cRc0_9, cRc1_9, cRc2_9⟩ := zad Rc_2.out; obtain ⟨cZ0_10, cZ1_10, cZ2_10⟩ := zad Z_2.out; obtain ⟨fZ0_10, fZ1_10, fZ2_10⟩ := zax Z_2.out)
      | (go_at_call 97; have hc := mul_n (zak (zdi Qb_2.out)) (zak (zdi Qc_2.out)) (Nat.le_refl _) (Nat.le_refl _) (Nat.le_trans Hsb.out (by omega)) (Nat.le_trans Hsc.out (by omega)); (with_reducible refine hc.mono ?_); clear hc; rintro e w2 ⟨⟨v2, rfl, hv2⟩, hb⟩; have newM2 := Lib.hid (zbb hv2 sz_2.out); have Qa_3 := Lib.hid (IsQ.stb.next Qa_2.out (hb)); have Ra_3 := Lib.hid (Row.next Ra_2.out (hb)); have Qp_3 := Lib.hid (IsQ.stb.next Qp_2.out (hb)); have Rp_3 := Lib.hid (Row.next Rp_2.out (hb)); have Qb_3 := Lib.hid (IsQ.stb.next Qb_2.out (hb)); have Rb_3 := Lib.hid (Row.next Rb_2.out (hb)); have Qc_3 := Lib.hid (IsQ.stb.next Qc_2.out (hb)); have Rc_3 := Lib.hid (Row.next Rc_2.out (hb)); have Z_3 := Lib.hid (Row.next Z_2.out (hb)); have bw_3 := Lib.hid (zaa bw_2.out (hb)); have sz_3 := Lib.hid (zag sz_2.out (hb)); have D_3 := Lib.hid (IsN.next D_2.out (hb)); have M1_1 := Lib.hid (IsK.stb.fresh M1_0.out (hb)); clear Qa_2 Ra_2 Qp_2 Rp_2 Qb_2 Rb_2 Qc_2 Rc_2 Z_2 bw_2 sz_2 D_2 M1_0; have M2_0 := newM2; clear newM2; obtain ⟨P2, k2, rfl, _, _, _⟩ := id hv2; clear cRa0_6 cRa1_6 cRa2_6 cRp0_7 cRp1_7 cRp2_7 cRb0_8 cRb1_8 cRb2_8 cRc0_9 cRc1_9 cRc2_9 cZ0_10 cZ1_10 cZ2_10 fZ0_10 fZ1_10 fZ2_10; obtain ⟨cRa0_11, cRa1_11, cRa2_11⟩ := zad Ra_3.out; obtain ⟨cRp0_12, cRp1_12, cRp2_12⟩ := zad Rp_3.out; obtain ⟨cRb0_13, cRb1_13, cRb2_13⟩ := zad Rb_3.out; obtain ⟨cRc0_14, cRc1_14, cRc2_14⟩ := zad Rc_3.out; obtain ⟨cZ0_15, cZ1_15, cZ2_15⟩ := zad Z_3.out; obtain ⟨fZ0_15, fZ1_15, fZ2_15⟩ := zax Z_3.out)
      | (go_at_call 120; have hc := join_n s1 s2 (zak (IsK.stb.old M1_1.out)) (zak (IsK.stb.old M2_0.out)) (Nat.le_trans (sz_mul Hsa.out Hsp.out) (by omega)) (Nat.le_trans (sz_mul Hsb.out Hsc.out) (by omega)); (with_reducible refine hc.mono ?_); clear hc; rintro e w3 ⟨⟨s, v3, n, rfl, hsum, hv3, hnl⟩, hb⟩; have newJ := Lib.hid (zbb hv3 sz_3.out); have Qa_4 := Lib.hid (IsQ.stb.next Qa_3.out (hb)); have Ra_4 := Lib.hid (Row.next Ra_3.out (hb)); have Qp_4 := Lib.hid (IsQ.stb.next Qp_3.out (hb)); have Rp_4 := Lib.hid (Row.next Rp_3.out (hb)); have Qb_4 := Lib.hid (IsQ.stb.next Qb_3.out (hb)); have Rb_4 := Lib.hid (Row.next Rb_3.out (hb)); have Qc_4 := Lib.hid (IsQ.stb.next Qc_3.out (hb)); have Rc_4 := Lib.hid (Row.next Rc_3.out (hb)); have Z_4 := Lib.hid (Row.next Z_3.out (hb)); have bw_4 := Lib.hid (zaa bw_3.out (hb)); have sz_4 := Lib.hid (zag sz_3.out (hb)); have D_4 := Lib.hid (IsN.next D_3.out (hb)); have M1_2 := Lib.hid (IsK.stb.fresh M1_1.out (hb)); have M2_1 := Lib.hid (IsK.stb.fresh M2_0.out (hb)); clear Qa_3 Ra_3 Qp_3 Rp_3 Qb_3 Rb_3 Qc_3 Rc_3 Z_3 bw_3 sz_3 D_3 M1_1 M2_0; have J_0 := newJ; clear newJ; obtain ⟨P3, k3, rfl, _, _, _⟩ := id hv3; have Hnl := Lib.hid hnl; have Hs := Lib.hid (HC.out s n hsum.out); clear hsum hnl; clear cRa0_11 cRa1_11 cRa2_11 cRp0_12 cRp1_12 cRp2_12 cRb0_13 cRb1_13 cRb2_13 cRc0_14 cRc1_14 cRc2_14 cZ0_15 cZ1_15 cZ2_15 fZ0_15 fZ1_15 fZ2_15; obtain ⟨cRa0_16, cRa1_16, cRa2_16⟩ := zad Ra_4.out; obtain ⟨cRp0_17, cRp1_17, cRp2_17⟩ := zad Rp_4.out; obtain ⟨cRb0_18, cRb1_18, cRb2_18⟩ := zad Rb_4.out; obtain ⟨cRc0_19, cRc1_19, cRc2_19⟩ := zad Rc_4.out; obtain ⟨cZ0_20, cZ1_20, cZ2_20⟩ := zad Z_4.out; obtain ⟨fZ0_20, fZ1_20, fZ2_20⟩ := zax Z_4.out))
  go_wp2_with fail
  clear hs1 hs2
  refine (over_new J_0.out sz_4.out D_4.out (Nat.le_trans Hnl.out (by omega)) (Nat.le_trans Hdl.out (by omega)) Hd0.out).mono ?_
  rintro e w4 ⟨⟨v4, rfl, hv4⟩, hb⟩
  have newE := Lib.hid (hv4)
  have Qa_5 := Lib.hid (IsQ.stb.next Qa_4.out (hb))
  have Ra_5 := Lib.hid (Row.next Ra_4.out (hb))
  have Qp_5 := Lib.hid (IsQ.stb.next Qp_4.out (hb))
  have Rp_5 := Lib.hid (Row.next Rp_4.out (hb))
  have Qb_5 := Lib.hid (IsQ.stb.next Qb_4.out (hb))
  have Rb_5 := Lib.hid (Row.next Rb_4.out (hb))
  have Qc_5 := Lib.hid (IsQ.stb.next Qc_4.out (hb))
  have Rc_5 := Lib.hid (Row.next Rc_4.out (hb))
  have Z_5 := Lib.hid (Row.next Z_4.out (hb))
  have bw_5 := Lib.hid (zaa bw_4.out (hb))
  have sz_5 := Lib.hid (zag sz_4.out (hb))
  have D_5 := Lib.hid (IsN.next D_4.out (hb))
  have M1_3 := Lib.hid (IsK.stb.fresh M1_2.out (hb))
  have M2_2 := Lib.hid (IsK.stb.fresh M2_1.out (hb))
  have J_1 := Lib.hid (IsK.stb.fresh J_0.out (hb))
  clear Qa_4 Ra_4 Qp_4 Rp_4 Qb_4 Rb_4 Qc_4 Rc_4 Z_4 bw_4 sz_4 D_4 M1_2 M2_1 J_0
  have E_0 := newE
  clear newE
  obtain ⟨P4, k4, rfl, _, _, _⟩ := id hv4
  clear cRa0_16 cRa1_16 cRa2_16 cRp0_17 cRp1_17 cRp2_17 cRb0_18 cRb1_18 cRb2_18 cRc0_19 cRc1_19 cRc2_19 cZ0_20 cZ1_20 cZ2_20 fZ0_20 fZ1_20 fZ2_20
  obtain ⟨cRa0_21, cRa1_21, cRa2_21⟩ := zad Ra_5.out
  obtain ⟨cRp0_22, cRp1_22, cRp2_22⟩ := zad Rp_5.out
  obtain ⟨cRb0_23, cRb1_23, cRb2_23⟩ := zad Rb_5.out
  obtain ⟨cRc0_24, cRc1_24, cRc2_24⟩ := zad Rc_5.out
  obtain ⟨cZ0_25, cZ1_25, cZ2_25⟩ := zad Z_5.out
  obtain ⟨fZ0_25, fZ1_25, fZ2_25⟩ := zax Z_5.out
  cases s with
  | false =>
    go_wp2_with fail
    refine (one_n _).mono ?_
    rintro e w5 ⟨⟨v5, rfl, hv5⟩, hb⟩
    have newV2 := Lib.hid (zbb hv5 sz_5.out)
    have Qa_6 := Lib.hid (IsQ.stb.next Qa_5.out (hb))
    have Ra_6 := Lib.hid (Row.next Ra_5.out (hb))
    have Qp_6 := Lib.hid (IsQ.stb.next Qp_5.out (hb))
    have Rp_6 := Lib.hid (Row.next Rp_5.out (hb))
    have Qb_6 := Lib.hid (IsQ.stb.next Qb_5.out (hb))
    have Rb_6 := Lib.hid (Row.next Rb_5.out (hb))
    have Qc_6 := Lib.hid (IsQ.stb.next Qc_5.out (hb))
    have Rc_6 := Lib.hid (Row.next Rc_5.out (hb))
    have Z_6 := Lib.hid (Row.next Z_5.out (hb))
    have bw_6 := Lib.hid (zaa bw_5.out (hb))
    have sz_6 := Lib.hid (zag sz_5.out (hb))
    have D_6 := Lib.hid (IsN.next D_5.out (hb))
    have M1_4 := Lib.hid (IsK.stb.fresh M1_3.out (hb))
    have M2_3 := Lib.hid (IsK.stb.fresh M2_2.out (hb))
    have J_2 := Lib.hid (IsK.stb.fresh J_1.out (hb))
    have E_1 := Lib.hid (IsK.stb.fresh E_0.out (hb))
    clear Qa_5 Ra_5 Qp_5 Rp_5 Qb_5 Rb_5 Qc_5 Rc_5 Z_5 bw_5 sz_5 D_5 M1_3 M2_2 J_1 E_0
    have V2_0 := newV2
    clear newV2
    obtain ⟨P5, k5, rfl, _, _, _⟩ := id hv5
    clear cRa0_21 cRa1_21 cRa2_21 cRp0_22 cRp1_22 cRp2_22 cRb0_23 cRb1_23 cRb2_23 cRc0_24 cRc1_24 cRc2_24 cZ0_25 cZ1_25 cZ2_25 fZ0_25 fZ1_25 fZ2_25
    obtain ⟨cRa0_26, cRa1_26, cRa2_26⟩ := zad Ra_6.out
    obtain ⟨cRp0_27, cRp1_27, cRp2_27⟩ := zad Rp_6.out
    obtain ⟨cRb0_28, cRb1_28, cRb2_28⟩ := zad Rb_6.out
    obtain ⟨cRc0_29, cRc1_29, cRc2_29⟩ := zad Rc_6.out
    obtain ⟨cZ0_30, cZ1_30, cZ2_30⟩ := zad Z_6.out
    obtain ⟨fZ0_30, fZ1_30, fZ2_30⟩ := zax Z_6.out
    go_wp2_with fail
    refine zbh Tryd.results128 rfl rfl (Row.put3 Z_6.out _ _ _) (retQ (by rw [Hs.out, raw_sg]; rfl) bw_6.out (by omega) E_1.out V2_0.out (by omega) (by omega))
  | true =>
    rcases Nat.eq_zero_or_pos (n / d) with hz | hz
    · have e1 : decide (0 < (lim (n / d)).length) = false := by rw [hz, zbg]; rfl
      have Hz := Lib.hid hz
      clear hz
      go_wp2_with fail
      refine (one_n _).mono ?_
      rintro e w5 ⟨⟨v5, rfl, hv5⟩, hb⟩
      have newV2 := Lib.hid (zbb hv5 sz_5.out)
      have Qa_6 := Lib.hid (IsQ.stb.next Qa_5.out (hb))
      have Ra_6 := Lib.hid (Row.next Ra_5.out (hb))
      have Qp_6 := Lib.hid (IsQ.stb.next Qp_5.out (hb))
      have Rp_6 := Lib.hid (Row.next Rp_5.out (hb))
      have Qb_6 := Lib.hid (IsQ.stb.next Qb_5.out (hb))
      have Rb_6 := Lib.hid (Row.next Rb_5.out (hb))
      have Qc_6 := Lib.hid (IsQ.stb.next Qc_5.out (hb))
      have Rc_6 := Lib.hid (Row.next Rc_5.out (hb))
      have Z_6 := Lib.hid (Row.next Z_5.out (hb))
      have bw_6 := Lib.hid (zaa bw_5.out (hb))
      have sz_6 := Lib.hid (zag sz_5.out (hb))
      have D_6 := Lib.hid (IsN.next D_5.out (hb))
      have M1_4 := Lib.hid (IsK.stb.fresh M1_3.out (hb))
      have M2_3 := Lib.hid (IsK.stb.fresh M2_2.out (hb))
      have J_2 := Lib.hid (IsK.stb.fresh J_1.out (hb))
      have E_1 := Lib.hid (IsK.stb.fresh E_0.out (hb))
      clear Qa_5 Ra_5 Qp_5 Rp_5 Qb_5 Rb_5 Qc_5 Rc_5 Z_5 bw_5 sz_5 D_5 M1_3 M2_2 J_1 E_0
      have V2_0 := newV2
      clear newV2
      obtain ⟨P5, k5, rfl, _, _, _⟩ := id hv5
      clear cRa0_21 cRa1_21 cRa2_21 cRp0_22 cRp1_22 cRp2_22 cRb0_23 cRb1_23 cRb2_23 cRc0_24 cRc1_24 cRc2_24 cZ0_25 cZ1_25 cZ2_25 fZ0_25 fZ1_25 fZ2_25
      obtain ⟨cRa0_26, cRa1_26, cRa2_26⟩ := zad Ra_6.out
      obtain ⟨cRp0_27, cRp1_27, cRp2_27⟩ := zad Rp_6.out
      obtain ⟨cRb0_28, cRb1_28, cRb2_28⟩ := zad Rb_6.out
      obtain ⟨cRc0_29, cRc1_29, cRc2_29⟩ := zad Rc_6.out
      obtain ⟨cZ0_30, cZ1_30, cZ2_30⟩ := zad Z_6.out
      obtain ⟨fZ0_30, fZ1_30, fZ2_30⟩ := zax Z_6.out
      go_wp2_with fail
      refine zbh Tryd.results128 rfl rfl (Row.put3 Z_6.out _ _ _) (retQ (by rw [Hs.out, raw_sg]; rw [Hz.out]; rfl) bw_6.out (by omega) E_1.out V2_0.out (by omega) (by omega))
    · have e1 : decide (0 < (lim (n / d)).length) = true := decide_eq_true (len_gt (by omega))
      have Hz := Lib.hid hz
      clear hz
      go_wp2_with fail
      refine (one_n _).mono ?_
      rintro e w5 ⟨⟨v5, rfl, hv5⟩, hb⟩
      have newV2 := Lib.hid (zbb hv5 sz_5.out)
      have Qa_6 := Lib.hid (IsQ.stb.next Qa_5.out (hb))
      have Ra_6 := Lib.hid (Row.next Ra_5.out (hb))
      have Qp_6 := Lib.hid (IsQ.stb.next Qp_5.out (hb))
      have Rp_6 := Lib.hid (Row.next Rp_5.out (hb))
      have Qb_6 := Lib.hid (IsQ.stb.next Qb_5.out (hb))
      have Rb_6 := Lib.hid (Row.next Rb_5.out (hb))
      have Qc_6 := Lib.hid (IsQ.stb.next Qc_5.out (hb))
      have Rc_6 := Lib.hid (Row.next Rc_5.out (hb))
      have Z_6 := Lib.hid (Row.next Z_5.out (hb))
      have bw_6 := Lib.hid (zaa bw_5.out (hb))
      have sz_6 := Lib.hid (zag sz_5.out (hb))
      have D_6 := Lib.hid (IsN.next D_5.out (hb))
      have M1_4 := Lib.hid (IsK.stb.fresh M1_3.out (hb))
      have M2_3 := Lib.hid (IsK.stb.fresh M2_2.out (hb))
      have J_2 := Lib.hid (IsK.stb.fresh J_1.out (hb))
      have E_1 := Lib.hid (IsK.stb.fresh E_0.out (hb))
      clear Qa_5 Ra_5 Qp_5 Rp_5 Qb_5 Rb_5 Qc_5 Rc_5 Z_5 bw_5 sz_5 D_5 M1_3 M2_2 J_1 E_0
      have V2_0 := newV2
      clear newV2
      obtain ⟨P5, k5, rfl, _, _, _⟩ := id hv5
      clear cRa0_21 cRa1_21 cRa2_21 cRp0_22 cRp1_22 cRp2_22 cRb0_23 cRb1_23 cRb2_23 cRc0_24 cRc1_24 cRc2_24 cZ0_25 cZ1_25 cZ2_25 fZ0_25 fZ1_25 fZ2_25
      obtain ⟨cRa0_26, cRa1_26, cRa2_26⟩ := zad Ra_6.out
      obtain ⟨cRp0_27, cRp1_27, cRp2_27⟩ := zad Rp_6.out
      obtain ⟨cRb0_28, cRb1_28, cRb2_28⟩ := zad Rb_6.out
      obtain ⟨cRc0_29, cRc1_29, cRc2_29⟩ := zad Rc_6.out
      obtain ⟨cZ0_30, cZ1_30, cZ2_30⟩ := zad Z_6.out
      obtain ⟨fZ0_30, fZ1_30, fZ2_30⟩ := zax Z_6.out
      go_wp2_with fail
      refine zbh Tryd.results128 rfl rfl (Row.put3 Z_6.out _ _ _) (retQ (by rw [Hs.out, raw_sg]; rw [decide_eq_true Hz.out]; rfl) bw_6.out (by omega) E_1.out V2_0.out (by omega) (by omega))
end Go.Proofs.YtblpaocignlpkaaDoor
