/-
  Contracts of package long's functions on whole numbers: Whole, Lift, Ratio, Cross, Lcm.
-/
import Derived.Test.YtjkgdggkgljdoaaDoorVinv08
import Derived.Test.YtjkgdggkgljdoaaDoorVinv07
import Derived.Test.YtjkgdggkgljdoaaDoorVinv02
import Derived.Test.YtjkgdggkgljdoaaDoorVinv01
import Derived.Test.YtjkgdggkgljdoaaDoorChecked
import Derived.WalkKit
import Derived.ProofKit
import Derived.OpenShut
import Derived.ChangeSame
import Derived.Carry
import Derived.Deep.DeepHandedRow
import Derived.Deep.Slices
namespace Go.Proofs.YtjkgdggkgljdoaaDoor
open Go.RowKit
set_option linter.unusedVariables false
theorem raw_int (z : Int) : raw (z : Rat) = ⟨decide (z < 0), lim z.natAbs, lim 1⟩ := by
  unfold raw
  rw [Rat.num_intCast, Rat.den_intCast]
theorem raw_nat (n : Nat) : raw (((n : Nat) : Int) : Rat) = ⟨false, lim n, lim 1⟩ := by
  rw [raw_int, Int.natAbs_natCast]
  have : ¬ ((n : Int) < 0) := by omega
  simp [this]
theorem isN_slice {w : World} {v : Value} {n : Nat} (h : IsN w 0 w.heap.size v n) : ∃ A c, v = .slice A (lim n).length c ∧ (lim n).length ≤ 9223372036854775807 := by
  have hl := h.length_le
  obtain ⟨A, c, rfl, _⟩ := h
  exact ⟨A, c, rfl, by unfold maxLen at hl; omega⟩
theorem boxes5 (w : World) (c1 c2 c3 c4 c5 : Array Value) (t1 t2 t3 t4 t5 : TypeId) : ∃ w0, ((((w.alloc (.cells c1 t1)).alloc (.cells c2 t2)).alloc (.cells c3 t3)).alloc (.cells c4 t4)).alloc (.cells c5 t5) = w0 ∧ Below w.heap.size w w0 ∧ Row w0 w.heap.size t1 c1.toList ∧ Row w0 (w.heap.size + 1) t2 c2.toList ∧
    Row w0 (w.heap.size + 2) t3 c3.toList ∧ Row w0 (w.heap.size + 3) t4 c4.toList ∧ Row w0 (w.heap.size + 4) t5 c5.toList ∧ Hid (w0.heap.size = w.heap.size + 5) := by
  obtain ⟨w1, rfl, h1, h2, h3, h4, h5⟩ := boxes3 w c1 c2 c3 t1 t2 t3
  obtain ⟨w2, rfl, k1, k2, k3, k4⟩ := zfp ((((w.alloc (.cells c1 t1)).alloc (.cells c2 t2)).alloc (.cells c3 t3))) c4 c5 t4 t5
  rw [h5.out] at k2 k3 k4
  exact ⟨_, rfl, zaa h1 k1, h2.next k1, h3.next k1, h4.next k1, k2, k3, k4⟩
set_option maxHeartbeats 400000 in
theorem whole_f {w : World} {v : Value} {n : Nat} (h : IsN w 0 w.heap.size v n) (hn : (lim n).length ≤ 4294967296) : Calls Tryd.prog 71 #[.bool false, v] w (RetQ w (((n : Nat) : Int) : Rat)) := by
  have HN := Lib.hid h
  obtain ⟨A, c, rfl, hl⟩ := isN_slice h
  have Hn := Lib.hid hn
  clear h hn
  obtain ⟨w0, hw0, hb0, rZ, Hz⟩ := zcf w #[.bool false, .slice none 0 0, .slice none 0 0] 50
  have Z_0 := Lib.hid (rZ)
  have bw_0 := Lib.hid (hb0)
  have sz_0 : Hid (w.heap.size + 1 ≤ w0.heap.size) := Lib.hid (Nat.le_of_eq Hz.out.symm)
  clear rZ hb0
  obtain ⟨cZ0_1, cZ1_1, cZ2_1⟩ := zad Z_0.out
  obtain ⟨fZ0_1, fZ1_1, fZ2_1⟩ := zaq Z_0.out
  have N_0 := Lib.hid (IsN.next HN.out bw_0.out)
  go_enter Tryd.func71, Tryd.ntmps71
  go_wp2_with fail
  clear hw0
  refine (copy_n N_0.out Hn.out).mono ?_
  rintro e w1 ⟨⟨v1, rfl, hv1⟩, hb⟩
  have newV1 := Lib.hid (zaz hv1 sz_0.out)
  have Z_1 := Lib.hid (Row.next Z_0.out (hb))
  have bw_1 := Lib.hid (zaa bw_0.out (hb))
  have sz_1 := Lib.hid (zah sz_0.out (hb))
  have N_1 := Lib.hid (IsN.next N_0.out (hb))
  clear Z_0 bw_0 sz_0 N_0
  have V1_0 := newV1
  clear newV1
  obtain ⟨P1, k1, rfl, _, _, _⟩ := id hv1
  clear cZ0_1 cZ1_1 cZ2_1 fZ0_1 fZ1_1 fZ2_1
  obtain ⟨cZ0_2, cZ1_2, cZ2_2⟩ := zad Z_1.out
  obtain ⟨fZ0_2, fZ1_2, fZ2_2⟩ := zaq Z_1.out
  go_wp2_with fail
  refine (one_n _).mono ?_
  rintro e w2 ⟨⟨v2, rfl, hv2⟩, hb⟩
  have newV2 := Lib.hid (zaz hv2 sz_1.out)
  have Z_2 := Lib.hid (Row.next Z_1.out (hb))
  have bw_2 := Lib.hid (zaa bw_1.out (hb))
  have sz_2 := Lib.hid (zah sz_1.out (hb))
  have N_2 := Lib.hid (IsN.next N_1.out (hb))
  have V1_1 := Lib.hid (IsK.stb.fresh V1_0.out (hb))
  clear Z_1 bw_1 sz_1 N_1 V1_0
  have V2_0 := newV2
  clear newV2
  obtain ⟨P2, k2, rfl, _, _, _⟩ := id hv2
  clear cZ0_2 cZ1_2 cZ2_2 fZ0_2 fZ1_2 fZ2_2
  obtain ⟨cZ0_3, cZ1_3, cZ2_3⟩ := zad Z_2.out
  obtain ⟨fZ0_3, fZ1_3, fZ2_3⟩ := zaq Z_2.out
  go_wp2_with fail
  refine zbc Tryd.results71 rfl rfl (Row.put3 Z_2.out _ _ _) (retQ (raw_nat n) bw_2.out (by omega) V1_1.out V2_0.out (by omega) (by omega))
theorem raw_lift {q : Rat} {n : Nat} (h : 0 < n / q.den) : raw ((q.num * ((n / q.den : Nat) : Int) : Int) : Rat) = ⟨decide (q.num < 0), lim (q.num.natAbs * (n / q.den)), lim 1⟩ := by
  rw [raw_int, Int.natAbs_mul, Int.natAbs_natCast]
  congr 1
  rw [decide_eq_decide]
  have h1 : (0 : Int) < ((n / q.den : Nat) : Int) := by omega
  constructor
  · intro h2
    rcases Int.lt_or_le q.num 0 with h3 | h3
    · exact h3
    · have := Int.mul_nonneg h3 (Int.le_of_lt h1)
      omega
  · exact fun h2 => Int.mul_neg_of_neg_of_pos h2 h1
set_option maxHeartbeats 1000000 in
theorem lift_q {w : World} {va vn : Value} {q : Rat} {n : Nat} (h : IsQ w (Old w) va q) (hn : IsN w 0 w.heap.size vn n) (hs : Sz q 100000) (hl : (lim n).length ≤ 1000000) (h0 : 0 < n / q.den) : Calls Tryd.prog 102 #[va, vn] w (RetQ w ((q.num * ((n / q.den : Nat) : Int) : Int) : Rat)) := by
  have HQa := Lib.hid h
  obtain ⟨nega, Aa, cAa, Ba, cBa, rfl, Hnega, Hna, Hda⟩ := zam h
  have HN := Lib.hid hn
  obtain ⟨C, cn, rfl, hln⟩ := isN_slice hn
  have Hs := Lib.hid hs
  have Hl := Lib.hid hl
  have Hr : Hid (raw ((q.num * ((n / q.den : Nat) : Int) : Int) : Rat) = ⟨nega, lim (q.num.natAbs * (n / q.den)), lim 1⟩) := by rw [Hid, Hnega.out]; exact raw_lift h0
  have Hd0 : Hid (0 < q.den) := q.den_pos
  clear h hn hs hl h0
  obtain ⟨w0, hw0, hb0, ra, rZ, Hz⟩ := zfp w #[.bool nega, .slice Aa (lim q.num.natAbs).length cAa, .slice Ba (lim q.den).length cBa] #[.bool false, .slice none 0 0, .slice none 0 0] 50 50
  have Qa_0 := Lib.hid (IsQ.stb.next HQa.out hb0)
  have Ra_0 := Lib.hid (ra)
  have Z_0 := Lib.hid (rZ)
  have bw_0 := Lib.hid (hb0)
  have sz_0 : Hid (w.heap.size + 2 ≤ w0.heap.size) := Lib.hid (Nat.le_of_eq Hz.out.symm)
  clear ra rZ hb0
  obtain ⟨cRa0_1, cRa1_1, cRa2_1⟩ := zad Ra_0.out
  obtain ⟨cZ0_2, cZ1_2, cZ2_2⟩ := zad Z_0.out
  obtain ⟨fZ0_2, fZ1_2, fZ2_2⟩ := zaq Z_0.out
  have N_0 := Lib.hid (IsN.next HN.out bw_0.out)
  go_enter Tryd.func102, Tryd.ntmps102
  go_wp2_with fail
  clear hw0
  have Qa_1 := Lib.hid (IsQ.stb.next Qa_0.out (zab _))
  have Ra_1 := Lib.hid (Row.next Ra_0.out (zab _))
  have Z_1 := Lib.hid (Row.next Z_0.out (zab _))
  have bw_1 := Lib.hid (zaa bw_0.out (zab _))
  have sz_1 := Lib.hid (zah sz_0.out (zab _))
  have N_1 := Lib.hid (IsN.next N_0.out (zab _))
  clear Qa_0 Ra_0 Z_0 bw_0 sz_0 N_0
  go_region_held3 (fun w' => w'.cell? ⟨w.heap.size, 0, none⟩ = some (.bool nega) ∧ w'.cell? ⟨w.heap.size, 1, none⟩ = some (.slice Aa (lim q.num.natAbs).length cAa) ∧ w'.cell? ⟨w.heap.size, 2, none⟩ = some (.slice Ba (lim q.den).length cBa))
    (first
      | exact ⟨cRa0_1, cRa1_1, cRa2_1⟩
      | exact ⟨cRa0_3, cRa1_3, cRa2_3⟩
      | exact ⟨cRa0_5, cRa1_5, cRa2_5⟩
      | exact ⟨cRa0_7, cRa1_7, cRa2_7⟩
      | exact ⟨zar cRa0_7 (by omega), zar cRa1_7 (by omega), zar cRa2_7 (by omega)⟩)
    (first
      | (go_at_call 119; have hc := zdd (isN_old N_1.out) (zal (zcv Qa_1.out)) (Nat.le_trans Hl.out (by omega)) (Nat.le_trans Hs.out.2 (by omega)) Hd0.out; (with_reducible refine hc.mono ?_); clear hc; rintro e w1 ⟨⟨v1, rfl, hv1⟩, hb⟩; have newE1 := Lib.hid (hv1); have Qa_2 := Lib.hid (IsQ.stb.next Qa_1.out (hb)); have Ra_2 := Lib.hid (Row.next Ra_1.out (hb)); have Z_2 := Lib.hid (Row.next Z_1.out (hb)); have bw_2 := Lib.hid (zaa bw_1.out (hb)); have sz_2 := Lib.hid (zah sz_1.out (hb)); have N_2 := Lib.hid (IsN.next N_1.out (hb)); clear Qa_1 Ra_1 Z_1 bw_1 sz_1 N_1; have E1_0 := newE1; clear newE1; obtain ⟨P1, k1, rfl, _, _, _⟩ := id hv1; clear cRa0_1 cRa1_1 cRa2_1 cZ0_2 cZ1_2 cZ2_2 fZ0_2 fZ1_2 fZ2_2; obtain ⟨cRa0_3, cRa1_3, cRa2_3⟩ := zad Ra_2.out; obtain ⟨cZ0_4, cZ1_4, cZ2_4⟩ := zad Z_2.out; obtain ⟨fZ0_4, fZ1_4, fZ2_4⟩ := zaq Z_2.out)
      | (go_at_call 97; have hc := mul_n (zal (zdm Qa_2.out)) (zal E1_0.out) (Nat.le_refl _) (Nat.le_refl _) (Nat.le_trans Hs.out.1 (by omega)) (Nat.le_trans (zdt Hl.out) (by omega)); (with_reducible refine hc.mono ?_); clear hc; rintro e w2 ⟨⟨v2, rfl, hv2⟩, hb⟩; have newV1 := Lib.hid (zaz hv2 sz_2.out); have Qa_3 := Lib.hid (IsQ.stb.next Qa_2.out (hb)); have Ra_3 := Lib.hid (Row.next Ra_2.out (hb)); have Z_3 := Lib.hid (Row.next Z_2.out (hb)); have bw_3 := Lib.hid (zaa bw_2.out (hb)); have sz_3 := Lib.hid (zah sz_2.out (hb)); have N_3 := Lib.hid (IsN.next N_2.out (hb)); have E1_1 := Lib.hid (IsK.stb.next E1_0.out (hb)); clear Qa_2 Ra_2 Z_2 bw_2 sz_2 N_2 E1_0; have V1_0 := newV1; clear newV1; obtain ⟨P2, k2, rfl, _, _, _⟩ := id hv2; clear cRa0_3 cRa1_3 cRa2_3 cZ0_4 cZ1_4 cZ2_4 fZ0_4 fZ1_4 fZ2_4; obtain ⟨cRa0_5, cRa1_5, cRa2_5⟩ := zad Ra_3.out; obtain ⟨cZ0_6, cZ1_6, cZ2_6⟩ := zad Z_3.out; obtain ⟨fZ0_6, fZ1_6, fZ2_6⟩ := zaq Z_3.out)
      | (go_at_call 72; have hc := one_n w2; (with_reducible refine hc.mono ?_); clear hc; rintro e w3 ⟨⟨v3, rfl, hv3⟩, hb⟩; have newV2 := Lib.hid (zaz hv3 sz_3.out); have Qa_4 := Lib.hid (IsQ.stb.next Qa_3.out (hb)); have Ra_4 := Lib.hid (Row.next Ra_3.out (hb)); have Z_4 := Lib.hid (Row.next Z_3.out (hb)); have bw_4 := Lib.hid (zaa bw_3.out (hb)); have sz_4 := Lib.hid (zah sz_3.out (hb)); have N_4 := Lib.hid (IsN.next N_3.out (hb)); have E1_2 := Lib.hid (IsK.stb.next E1_1.out (hb)); have V1_1 := Lib.hid (IsK.stb.fresh V1_0.out (hb)); clear Qa_3 Ra_3 Z_3 bw_3 sz_3 N_3 E1_1 V1_0; have V2_0 := newV2; clear newV2; obtain ⟨P3, k3, rfl, _, _, _⟩ := id hv3; clear cRa0_5 cRa1_5 cRa2_5 cZ0_6 cZ1_6 cZ2_6 fZ0_6 fZ1_6 fZ2_6; obtain ⟨cRa0_7, cRa1_7, cRa2_7⟩ := zad Ra_4.out; obtain ⟨cZ0_8, cZ1_8, cZ2_8⟩ := zad Z_4.out; obtain ⟨fZ0_8, fZ1_8, fZ2_8⟩ := zaq Z_4.out))
  go_wp2_with fail
  refine zbc Tryd.results102 rfl rfl (Row.put3 Z_4.out _ _ _) (retQ Hr.out bw_4.out (by omega) V1_1.out V2_0.out (by omega) (by omega))
set_option maxHeartbeats 1000000 in
theorem ratio_q {w : World} {vn vd : Value} {n d : Nat} {q : Rat} (s : Bool) (hn : IsN w 0 w.heap.size vn n) (hd : IsN w 0 w.heap.size vd d) (hB : Bru w) (hnl : (lim n).length ≤ 1000000) (hdl : (lim d).length ≤ 1000000) (hd0 : d ≠ 0) (hq : q = mkRat (sg s n) d) : Calls Tryd.prog 109 #[.bool s, vn, vd] w (RetQ w q) := by
  have HN := Lib.hid hn
  have HD := Lib.hid hd
  have HBr := Lib.hid hB
  have Hnl := Lib.hid hnl
  have Hdl := Lib.hid hdl
  have Hq := Lib.hid hq
  obtain ⟨A, ca, rfl, hla⟩ := isN_slice hn
  obtain ⟨C, cb, rfl, hlb⟩ := isN_slice hd
  clear hn hd hB hnl hdl hq
  by_cases hn0 : n = 0
  · have e0 : (((lim n).length : Int) == 0) = true := len_zero hn0
    have Hz0 : Hid (q = 0) := by rw [Hid, Hq.out, hn0, sg_zero]; simp
    clear hn0
    obtain ⟨w0, hw0, hb0, rZ, Hz⟩ := zcf w #[.bool false, .slice none 0 0, .slice none 0 0] 50
    have Z_0 := Lib.hid (rZ)
    have bw_0 := Lib.hid (hb0)
    have sz_0 : Hid (w.heap.size + 1 ≤ w0.heap.size) := Lib.hid (Nat.le_of_eq Hz.out.symm)
    clear rZ hb0
    obtain ⟨cZ0_1, cZ1_1, cZ2_1⟩ := zad Z_0.out
    obtain ⟨fZ0_1, fZ1_1, fZ2_1⟩ := zaq Z_0.out
    go_enter Tryd.func109, Tryd.ntmps109
    go_wp2_with fail
    clear hw0
    refine (zero_q _).mono ?_
    rintro e w1 ⟨⟨v1, rfl, hv⟩, hb⟩
    have newV := Lib.hid (IsQ.stb.le hv sz_0.out)
    have Z_1 := Lib.hid (Row.next Z_0.out (hb))
    have bw_1 := Lib.hid (zaa bw_0.out (hb))
    have sz_1 := Lib.hid (zah sz_0.out (hb))
    clear Z_0 bw_0 sz_0
    have V_0 := newV
    clear newV
    obtain ⟨s1, P1, k1, O1, l1, rfl, _, _, _⟩ := zam hv
    clear cZ0_1 cZ1_1 cZ2_1 fZ0_1 fZ1_1 fZ2_1
    obtain ⟨cZ0_2, cZ1_2, cZ2_2⟩ := zad Z_1.out
    obtain ⟨fZ0_2, fZ1_2, fZ2_2⟩ := zaq Z_1.out
    go_wp2_with fail
    rw [Hz0.out]
    refine zbc Tryd.results109 rfl rfl (Row.put3 Z_1.out _ _ _) (zfm V_0.out bw_1.out (by omega) (by omega))
  have e0 : (((lim n).length : Int) == 0) = false := zeb hn0
  have Hn0 := Lib.hid hn0
  have Hd0 := Lib.hid hd0
  clear hn0 hd0
  by_cases h2 : (lim n).length ≤ 2 ∧ (lim d).length ≤ 2
  · obtain ⟨h21, h22⟩ := h2
    have e1 : decide (((lim n).length : Int) ≤ 2) = true := by simp; omega
    have e2 : decide (((lim d).length : Int) ≤ 2) = true := by simp; omega
    have b1 : n < 1000000000000000000 := lt_of_two h21
    have b2 : d < 1000000000000000000 := lt_of_two h22
    have W1 := Lib.hid h21
    have W2 := Lib.hid h22
    obtain ⟨w0, hw0, hb0, rZ, Hz⟩ := zcf w #[.bool false, .slice none 0 0, .slice none 0 0] 50
    have Z_0 := Lib.hid (rZ)
    have bw_0 := Lib.hid (hb0)
    have sz_0 : Hid (w.heap.size + 1 ≤ w0.heap.size) := Lib.hid (Nat.le_of_eq Hz.out.symm)
    clear rZ hb0
    obtain ⟨cZ0_1, cZ1_1, cZ2_1⟩ := zad Z_0.out
    obtain ⟨fZ0_1, fZ1_1, fZ2_1⟩ := zaq Z_0.out
    have N_0 := Lib.hid (IsN.next HN.out bw_0.out)
    have D_0 := Lib.hid (IsN.next HD.out bw_0.out)
    have B_0 := Lib.hid (Bru.next HBr.out bw_0.out)
    go_enter Tryd.func109, Tryd.ntmps109
    go_wp2_with fail
    clear hw0
    refine (word_n N_0.out W1.out).mono ?_
    rintro e w1 ⟨rfl, rfl⟩
    go_wp2_with fail
    refine (word_n D_0.out W2.out).mono ?_
    rintro e w1 ⟨rfl, rfl⟩
    go_wp2_with fail
    refine (words_q _ s n d B_0.out Hn0.out Hd0.out (by omega) (by omega)).mono ?_
    rintro e w1 ⟨⟨v1, rfl, hv⟩, hb⟩
    have newV := Lib.hid (IsQ.stb.le hv sz_0.out)
    have Z_1 := Lib.hid (Row.next Z_0.out (hb))
    have bw_1 := Lib.hid (zaa bw_0.out (hb))
    have sz_1 := Lib.hid (zah sz_0.out (hb))
    have N_1 := Lib.hid (IsN.next N_0.out (hb))
    have D_1 := Lib.hid (IsN.next D_0.out (hb))
    have B_1 := Lib.hid (Bru.next B_0.out (hb))
    clear Z_0 bw_0 sz_0 N_0 D_0 B_0
    have V_0 := newV
    clear newV
    obtain ⟨s1, P1, k1, O1, l1, rfl, _, _, _⟩ := zam hv
    clear cZ0_1 cZ1_1 cZ2_1 fZ0_1 fZ1_1 fZ2_1
    obtain ⟨cZ0_2, cZ1_2, cZ2_2⟩ := zad Z_1.out
    obtain ⟨fZ0_2, fZ1_2, fZ2_2⟩ := zaq Z_1.out
    go_wp2_with fail
    rw [Hq.out]
    refine zbc Tryd.results109 rfl rfl (Row.put3 Z_1.out _ _ _) (zfm V_0.out bw_1.out (by omega) (by omega))
  rcases Nat.lt_or_ge 2 (lim n).length with h3 | h3
  · have e1 : decide (((lim n).length : Int) ≤ 2) = false := by simp; omega
    clear h2
    obtain ⟨G, hG⟩ : ∃ G, G = Nat.gcd n d := ⟨_, rfl⟩
    have Hr : Hid (raw q = ⟨s, lim (n / G), lim (d / G)⟩) := by rw [Hid, Hq.out, hG]; exact raw_ratio Hn0.out Hd0.out
    have HG := Lib.hid hG
    have HGp : Hid (0 < G) := by rw [Hid, hG]; exact zeu _ Hd0.out
    have HGl : Hid ((lim G).length ≤ 1000000) := by rw [Hid, hG]; exact gcd_le_r _ Hd0.out Hdl.out
    clear hG
    obtain ⟨w0, hw0, hb0, rZ, Hz⟩ := zcf w #[.bool false, .slice none 0 0, .slice none 0 0] 50
    have Z_0 := Lib.hid (rZ)
    have bw_0 := Lib.hid (hb0)
    have sz_0 : Hid (w.heap.size + 1 ≤ w0.heap.size) := Lib.hid (Nat.le_of_eq Hz.out.symm)
    clear rZ hb0
    obtain ⟨cZ0_1, cZ1_1, cZ2_1⟩ := zad Z_0.out
    obtain ⟨fZ0_1, fZ1_1, fZ2_1⟩ := zaq Z_0.out
    have N_0 := Lib.hid (IsN.next HN.out bw_0.out)
    have D_0 := Lib.hid (IsN.next HD.out bw_0.out)
    have B_0 := Lib.hid (Bru.next HBr.out bw_0.out)
    go_enter Tryd.func109, Tryd.ntmps109
    go_wp2_with fail
    clear hw0
    refine (gcd_n N_0.out D_0.out B_0.out (Nat.le_trans Hnl.out (by omega)) (Nat.le_trans Hdl.out (by omega))).mono ?_
    rw [← HG.out]
    rintro e w1 ⟨⟨v1, rfl, hv1⟩, hb⟩
    have newG := Lib.hid (zaz hv1 sz_0.out)
    have Z_1 := Lib.hid (Row.next Z_0.out (hb))
    have bw_1 := Lib.hid (zaa bw_0.out (hb))
    have sz_1 := Lib.hid (zah sz_0.out (hb))
    have N_1 := Lib.hid (IsN.next N_0.out (hb))
    have D_1 := Lib.hid (IsN.next D_0.out (hb))
    have B_1 := Lib.hid (Bru.next B_0.out (hb))
    clear Z_0 bw_0 sz_0 N_0 D_0 B_0
    have G_0 := newG
    clear newG
    obtain ⟨P1, k1, rfl, _, _, _⟩ := id hv1
    clear cZ0_1 cZ1_1 cZ2_1 fZ0_1 fZ1_1 fZ2_1
    obtain ⟨cZ0_2, cZ1_2, cZ2_2⟩ := zad Z_1.out
    obtain ⟨fZ0_2, fZ1_2, fZ2_2⟩ := zaq Z_1.out
    go_wp2_with fail
    refine (zdd (isN_old N_1.out) (zal (IsK.stb.old G_0.out)) (Nat.le_trans Hnl.out (by omega)) (Nat.le_trans HGl.out (by omega)) HGp.out).mono ?_
    rintro e w2 ⟨⟨v2, rfl, hv2⟩, hb⟩
    have newE1 := Lib.hid (hv2)
    have Z_2 := Lib.hid (Row.next Z_1.out (hb))
    have bw_2 := Lib.hid (zaa bw_1.out (hb))
    have sz_2 := Lib.hid (zah sz_1.out (hb))
    have N_2 := Lib.hid (IsN.next N_1.out (hb))
    have D_2 := Lib.hid (IsN.next D_1.out (hb))
    have B_2 := Lib.hid (Bru.next B_1.out (hb))
    have G_1 := Lib.hid (IsK.stb.fresh G_0.out (hb))
    clear Z_1 bw_1 sz_1 N_1 D_1 B_1 G_0
    have E1_0 := newE1
    clear newE1
    obtain ⟨P2, k2, rfl, _, _, _⟩ := id hv2
    clear cZ0_2 cZ1_2 cZ2_2 fZ0_2 fZ1_2 fZ2_2
    obtain ⟨cZ0_3, cZ1_3, cZ2_3⟩ := zad Z_2.out
    obtain ⟨fZ0_3, fZ1_3, fZ2_3⟩ := zaq Z_2.out
    go_wp2_with fail
    refine (copy_n (zal E1_0.out) (Nat.le_trans (zdt Hnl.out) (by omega))).mono ?_
    rintro e w3 ⟨⟨v3, rfl, hv3⟩, hb⟩
    have newV1 := Lib.hid (zaz hv3 sz_2.out)
    have Z_3 := Lib.hid (Row.next Z_2.out (hb))
    have bw_3 := Lib.hid (zaa bw_2.out (hb))
    have sz_3 := Lib.hid (zah sz_2.out (hb))
    have N_3 := Lib.hid (IsN.next N_2.out (hb))
    have D_3 := Lib.hid (IsN.next D_2.out (hb))
    have B_3 := Lib.hid (Bru.next B_2.out (hb))
    have G_2 := Lib.hid (IsK.stb.fresh G_1.out (hb))
    have E1_1 := Lib.hid (IsK.stb.next E1_0.out (hb))
    clear Z_2 bw_2 sz_2 N_2 D_2 B_2 G_1 E1_0
    have V1_0 := newV1
    clear newV1
    obtain ⟨P3, k3, rfl, _, _, _⟩ := id hv3
    clear cZ0_3 cZ1_3 cZ2_3 fZ0_3 fZ1_3 fZ2_3
    obtain ⟨cZ0_4, cZ1_4, cZ2_4⟩ := zad Z_3.out
    obtain ⟨fZ0_4, fZ1_4, fZ2_4⟩ := zaq Z_3.out
    go_wp2_with fail
    refine (zdd (isN_old D_3.out) (zal (IsK.stb.old G_2.out)) (Nat.le_trans Hdl.out (by omega)) (Nat.le_trans HGl.out (by omega)) HGp.out).mono ?_
    rintro e w4 ⟨⟨v4, rfl, hv4⟩, hb⟩
    have newE2 := Lib.hid (hv4)
    have Z_4 := Lib.hid (Row.next Z_3.out (hb))
    have bw_4 := Lib.hid (zaa bw_3.out (hb))
    have sz_4 := Lib.hid (zah sz_3.out (hb))
    have N_4 := Lib.hid (IsN.next N_3.out (hb))
    have D_4 := Lib.hid (IsN.next D_3.out (hb))
    have B_4 := Lib.hid (Bru.next B_3.out (hb))
    have G_3 := Lib.hid (IsK.stb.fresh G_2.out (hb))
    have E1_2 := Lib.hid (IsK.stb.next E1_1.out (hb))
    have V1_1 := Lib.hid (IsK.stb.fresh V1_0.out (hb))
    clear Z_3 bw_3 sz_3 N_3 D_3 B_3 G_2 E1_1 V1_0
    have E2_0 := newE2
    clear newE2
    obtain ⟨P4, k4, rfl, _, _, _⟩ := id hv4
    clear cZ0_4 cZ1_4 cZ2_4 fZ0_4 fZ1_4 fZ2_4
    obtain ⟨cZ0_5, cZ1_5, cZ2_5⟩ := zad Z_4.out
    obtain ⟨fZ0_5, fZ1_5, fZ2_5⟩ := zaq Z_4.out
    go_wp2_with fail
    refine (copy_n (zal E2_0.out) (Nat.le_trans (zdt Hdl.out) (by omega))).mono ?_
    rintro e w5 ⟨⟨v5, rfl, hv5⟩, hb⟩
    have newV2 := Lib.hid (zaz hv5 sz_4.out)
    have Z_5 := Lib.hid (Row.next Z_4.out (hb))
    have bw_5 := Lib.hid (zaa bw_4.out (hb))
    have sz_5 := Lib.hid (zah sz_4.out (hb))
    have N_5 := Lib.hid (IsN.next N_4.out (hb))
    have D_5 := Lib.hid (IsN.next D_4.out (hb))
    have B_5 := Lib.hid (Bru.next B_4.out (hb))
    have G_4 := Lib.hid (IsK.stb.fresh G_3.out (hb))
    have E1_3 := Lib.hid (IsK.stb.next E1_2.out (hb))
    have V1_2 := Lib.hid (IsK.stb.fresh V1_1.out (hb))
    have E2_1 := Lib.hid (IsK.stb.next E2_0.out (hb))
    clear Z_4 bw_4 sz_4 N_4 D_4 B_4 G_3 E1_2 V1_1 E2_0
    have V2_0 := newV2
    clear newV2
    obtain ⟨P5, k5, rfl, _, _, _⟩ := id hv5
    clear cZ0_5 cZ1_5 cZ2_5 fZ0_5 fZ1_5 fZ2_5
    obtain ⟨cZ0_6, cZ1_6, cZ2_6⟩ := zad Z_5.out
    obtain ⟨fZ0_6, fZ1_6, fZ2_6⟩ := zaq Z_5.out
    go_wp2_with fail
    refine zbc Tryd.results109 rfl rfl (Row.put3 Z_5.out _ _ _) (retQ Hr.out bw_5.out (by omega) V1_2.out V2_0.out (by omega) (by omega))
  · have e1 : decide (((lim n).length : Int) ≤ 2) = true := by simp; omega
    have e2 : decide (((lim d).length : Int) ≤ 2) = false := by simp; omega
    clear h2
    obtain ⟨G, hG⟩ : ∃ G, G = Nat.gcd n d := ⟨_, rfl⟩
    have Hr : Hid (raw q = ⟨s, lim (n / G), lim (d / G)⟩) := by rw [Hid, Hq.out, hG]; exact raw_ratio Hn0.out Hd0.out
    have HG := Lib.hid hG
    have HGp : Hid (0 < G) := by rw [Hid, hG]; exact zeu _ Hd0.out
    have HGl : Hid ((lim G).length ≤ 1000000) := by rw [Hid, hG]; exact gcd_le_r _ Hd0.out Hdl.out
    clear hG
    obtain ⟨w0, hw0, hb0, rZ, Hz⟩ := zcf w #[.bool false, .slice none 0 0, .slice none 0 0] 50
    have Z_0 := Lib.hid (rZ)
    have bw_0 := Lib.hid (hb0)
    have sz_0 : Hid (w.heap.size + 1 ≤ w0.heap.size) := Lib.hid (Nat.le_of_eq Hz.out.symm)
    clear rZ hb0
    obtain ⟨cZ0_1, cZ1_1, cZ2_1⟩ := zad Z_0.out
    obtain ⟨fZ0_1, fZ1_1, fZ2_1⟩ := zaq Z_0.out
    have N_0 := Lib.hid (IsN.next HN.out bw_0.out)
    have D_0 := Lib.hid (IsN.next HD.out bw_0.out)
    have B_0 := Lib.hid (Bru.next HBr.out bw_0.out)
    go_enter Tryd.func109, Tryd.ntmps109
    go_wp2_with fail
    clear hw0
    refine (gcd_n N_0.out D_0.out B_0.out (Nat.le_trans Hnl.out (by omega)) (Nat.le_trans Hdl.out (by omega))).mono ?_
    rw [← HG.out]
    rintro e w1 ⟨⟨v1, rfl, hv1⟩, hb⟩
    have newG := Lib.hid (zaz hv1 sz_0.out)
    have Z_1 := Lib.hid (Row.next Z_0.out (hb))
    have bw_1 := Lib.hid (zaa bw_0.out (hb))
    have sz_1 := Lib.hid (zah sz_0.out (hb))
    have N_1 := Lib.hid (IsN.next N_0.out (hb))
    have D_1 := Lib.hid (IsN.next D_0.out (hb))
    have B_1 := Lib.hid (Bru.next B_0.out (hb))
    clear Z_0 bw_0 sz_0 N_0 D_0 B_0
    have G_0 := newG
    clear newG
    obtain ⟨P1, k1, rfl, _, _, _⟩ := id hv1
    clear cZ0_1 cZ1_1 cZ2_1 fZ0_1 fZ1_1 fZ2_1
    obtain ⟨cZ0_2, cZ1_2, cZ2_2⟩ := zad Z_1.out
    obtain ⟨fZ0_2, fZ1_2, fZ2_2⟩ := zaq Z_1.out
    go_wp2_with fail
    refine (zdd (isN_old N_1.out) (zal (IsK.stb.old G_0.out)) (Nat.le_trans Hnl.out (by omega)) (Nat.le_trans HGl.out (by omega)) HGp.out).mono ?_
    rintro e w2 ⟨⟨v2, rfl, hv2⟩, hb⟩
    have newE1 := Lib.hid (hv2)
    have Z_2 := Lib.hid (Row.next Z_1.out (hb))
    have bw_2 := Lib.hid (zaa bw_1.out (hb))
    have sz_2 := Lib.hid (zah sz_1.out (hb))
    have N_2 := Lib.hid (IsN.next N_1.out (hb))
    have D_2 := Lib.hid (IsN.next D_1.out (hb))
    have B_2 := Lib.hid (Bru.next B_1.out (hb))
    have G_1 := Lib.hid (IsK.stb.fresh G_0.out (hb))
    clear Z_1 bw_1 sz_1 N_1 D_1 B_1 G_0
    have E1_0 := newE1
    clear newE1
    obtain ⟨P2, k2, rfl, _, _, _⟩ := id hv2
    clear cZ0_2 cZ1_2 cZ2_2 fZ0_2 fZ1_2 fZ2_2
    obtain ⟨cZ0_3, cZ1_3, cZ2_3⟩ := zad Z_2.out
    obtain ⟨fZ0_3, fZ1_3, fZ2_3⟩ := zaq Z_2.out
    go_wp2_with fail
    refine (copy_n (zal E1_0.out) (Nat.le_trans (zdt Hnl.out) (by omega))).mono ?_
    rintro e w3 ⟨⟨v3, rfl, hv3⟩, hb⟩
    have newV1 := Lib.hid (zaz hv3 sz_2.out)
    have Z_3 := Lib.hid (Row.next Z_2.out (hb))
    have bw_3 := Lib.hid (zaa bw_2.out (hb))
    have sz_3 := Lib.hid (zah sz_2.out (hb))
    have N_3 := Lib.hid (IsN.next N_2.out (hb))
    have D_3 := Lib.hid (IsN.next D_2.out (hb))
    have B_3 := Lib.hid (Bru.next B_2.out (hb))
    have G_2 := Lib.hid (IsK.stb.fresh G_1.out (hb))
    have E1_1 := Lib.hid (IsK.stb.next E1_0.out (hb))
    clear Z_2 bw_2 sz_2 N_2 D_2 B_2 G_1 E1_0
    have V1_0 := newV1
    clear newV1
    obtain ⟨P3, k3, rfl, _, _, _⟩ := id hv3
    clear cZ0_3 cZ1_3 cZ2_3 fZ0_3 fZ1_3 fZ2_3
    obtain ⟨cZ0_4, cZ1_4, cZ2_4⟩ := zad Z_3.out
    obtain ⟨fZ0_4, fZ1_4, fZ2_4⟩ := zaq Z_3.out
    go_wp2_with fail
    refine (zdd (isN_old D_3.out) (zal (IsK.stb.old G_2.out)) (Nat.le_trans Hdl.out (by omega)) (Nat.le_trans HGl.out (by omega)) HGp.out).mono ?_
    rintro e w4 ⟨⟨v4, rfl, hv4⟩, hb⟩
    have newE2 := Lib.hid (hv4)
    have Z_4 := Lib.hid (Row.next Z_3.out (hb))
    have bw_4 := Lib.hid (zaa bw_3.out (hb))
    have sz_4 := Lib.hid (zah sz_3.out (hb))
    have N_4 := Lib.hid (IsN.next N_3.out (hb))
    have D_4 := Lib.hid (IsN.next D_3.out (hb))
    have B_4 := Lib.hid (Bru.next B_3.out (hb))
    have G_3 := Lib.hid (IsK.stb.fresh G_2.out (hb))
    have E1_2 := Lib.hid (IsK.stb.next E1_1.out (hb))
    have V1_1 := Lib.hid (IsK.stb.fresh V1_0.out (hb))
    clear Z_3 bw_3 sz_3 N_3 D_3 B_3 G_2 E1_1 V1_0
    have E2_0 := newE2
    clear newE2
    obtain ⟨P4, k4, rfl, _, _, _⟩ := id hv4
    clear cZ0_4 cZ1_4 cZ2_4 fZ0_4 fZ1_4 fZ2_4
    obtain ⟨cZ0_5, cZ1_5, cZ2_5⟩ := zad Z_4.out
    obtain ⟨fZ0_5, fZ1_5, fZ2_5⟩ := zaq Z_4.out
    go_wp2_with fail
    refine (copy_n (zal E2_0.out) (Nat.le_trans (zdt Hdl.out) (by omega))).mono ?_
    rintro e w5 ⟨⟨v5, rfl, hv5⟩, hb⟩
    have newV2 := Lib.hid (zaz hv5 sz_4.out)
    have Z_5 := Lib.hid (Row.next Z_4.out (hb))
    have bw_5 := Lib.hid (zaa bw_4.out (hb))
    have sz_5 := Lib.hid (zah sz_4.out (hb))
    have N_5 := Lib.hid (IsN.next N_4.out (hb))
    have D_5 := Lib.hid (IsN.next D_4.out (hb))
    have B_5 := Lib.hid (Bru.next B_4.out (hb))
    have G_4 := Lib.hid (IsK.stb.fresh G_3.out (hb))
    have E1_3 := Lib.hid (IsK.stb.next E1_2.out (hb))
    have V1_2 := Lib.hid (IsK.stb.fresh V1_1.out (hb))
    have E2_1 := Lib.hid (IsK.stb.next E2_0.out (hb))
    clear Z_4 bw_4 sz_4 N_4 D_4 B_4 G_3 E1_2 V1_1 E2_0
    have V2_0 := newV2
    clear newV2
    obtain ⟨P5, k5, rfl, _, _, _⟩ := id hv5
    clear cZ0_5 cZ1_5 cZ2_5 fZ0_5 fZ1_5 fZ2_5
    obtain ⟨cZ0_6, cZ1_6, cZ2_6⟩ := zad Z_5.out
    obtain ⟨fZ0_6, fZ1_6, fZ2_6⟩ := zaq Z_5.out
    go_wp2_with fail
    refine zbc Tryd.results109 rfl rfl (Row.put3 Z_5.out _ _ _) (retQ Hr.out bw_5.out (by omega) V1_2.out V2_0.out (by omega) (by omega))
theorem zbn (l : List Rat) : (rawV l).length = l.length := by simp [rawV]
def zdy (l : List Rat) : Nat := l.foldl (fun o q => Nat.lcm o q.den) 1
theorem lcmTo_snoc (l : List Rat) (q : Rat) : zdy (l ++ [q]) = Nat.lcm (zdy l) q.den := by unfold zdy; rw [List.foldl_append]; rfl
theorem lcm_parts (a b : Nat) : a * (b / Nat.gcd a b) = Nat.lcm a b := by
  unfold Nat.lcm
  rw [Nat.mul_div_assoc _ (Nat.gcd_dvd_right a b)]
theorem lcmTo_foldl_pos (l : List Rat) : ∀ o, 0 < o → 0 < l.foldl (fun o q => Nat.lcm o q.den) o := by
  induction l with
  | nil => exact fun o h => h
  | cons q l ih => exact fun o h => ih _ (Nat.lcm_pos h q.den_pos)
theorem lcmTo_pos (l : List Rat) : 0 < zdy l := lcmTo_foldl_pos l 1 (by omega)
theorem dvd_foldl (l : List Rat) : ∀ o, o ∣ l.foldl (fun o q => Nat.lcm o q.den) o := by
  induction l with
  | nil => exact fun o => Nat.dvd_refl o
  | cons q l ih => exact fun o => Nat.dvd_trans (Nat.dvd_lcm_left o q.den) (ih _)
theorem lcmTo_dvd_foldl {q : Rat} (l : List Rat) : ∀ o, q ∈ l → q.den ∣ l.foldl (fun o q => Nat.lcm o q.den) o := by
  induction l with
  | nil => intro o h; cases h
  | cons p l ih =>
    intro o h
    rcases List.mem_cons.1 h with rfl | h
    · exact Nat.dvd_trans (Nat.dvd_lcm_right o q.den) (dvd_foldl l _)
    · exact ih _ h
theorem lcmTo_dvd {q : Rat} {l : List Rat} (h : q ∈ l) : q.den ∣ zdy l := lcmTo_dvd_foldl l 1 h
theorem lcmTo_foldl_len (l : List Rat) (hs : ∀ q ∈ l, Sz q 1024) : ∀ o k, (lim o).length ≤ k → (lim (l.foldl (fun o q => Nat.lcm o q.den) o)).length ≤ k + 1024 * l.length := by
  induction l with
  | nil => intro o k h; simpa using h
  | cons q l ih =>
    intro o k h
    have h1 : (lim (Nat.lcm o q.den)).length ≤ k + 1024 := by
      rw [← lcm_parts]
      exact sz_mul h (zdt (hs q (by simp)).2)
    have := ih (fun p hp => hs p (by simp [hp])) _ _ h1
    rw [List.length_cons]
    simp only [List.foldl_cons]
    omega
theorem lcmTo_len {l : List Rat} (hs : ∀ q ∈ l, Sz q 1024) : (lim (zdy l)).length ≤ 1 + 1024 * l.length := lcmTo_foldl_len l hs 1 1 (by rw [zde]; simp)
set_option maxRecDepth 100000 in
set_option maxHeartbeats 2000000 in
theorem lcm_n {w : World} {vl : Value} {l : List Rat} (h : IsV w (Old w) vl (rawV l)) (hB : Bru w) (hs : ∀ q ∈ l, Sz q 1024) (hl : l.length ≤ 100) :
    Calls Tryd.prog 101 #[vl] w fun e w' => (∃ v, e = .returned v ∧ IsN w' w.heap.size w'.heap.size v (zdy l)) ∧ Below w.heap.size w w' := by
  have HX := Lib.hid h
  have HB := Lib.hid hB
  have Hs := Lib.hid hs
  obtain ⟨D, d, rfl, hxl⟩ := zcm h
  obtain ⟨n, hn⟩ : ∃ n, n = l.length := ⟨_, rfl⟩
  rw [zbn, ← hn] at HX hxl ⊢
  rw [← hn] at hl
  have Hn := Lib.hid hn
  clear h hB hs hn
  go_enter Tryd.func101, Tryd.ntmps101
  go_wp2_with fail
  refine (one_n w).mono ?_
  rintro e w0 ⟨⟨v0, rfl, hv0⟩, hb0⟩
  have V0 := Lib.hid (isN_new hv0)
  have B0 := Lib.hid hb0
  obtain ⟨P0, k0, rfl, _, _, _⟩ := id hv0
  clear hv0 hb0
  go_wp2_with fail
  go_loopw [9, 3, 5] (fun i out _ wr => ∃ k : Nat, k ≤ n ∧ i = .int .i64 (k : Int) ∧ Below w.heap.size w wr ∧ Hid (IsN wr w.heap.size wr.heap.size out (zdy (l.take k)))) (fun i _ _ _ => n - (intOf i).toNat)
  case atStart => exact ⟨0, Nat.zero_le _, rfl, B0.out, by rw [Hid]; exact (IsK.isL V0.out fun b hb => hb)⟩
  case round =>
    obtain ⟨k, hk, rfl, hbw, hv⟩ := hrel
    have HW := Lib.hid hbw
    have HV := Lib.hid hv.out
    obtain ⟨P, kp, rfl, _, _, _⟩ := id hv.out
    rcases Nat.lt_or_ge k n with hlt | hge
    · obtain ⟨x, hx, hrx⟩ := zeh (l := l) (j := k) (by rw [← Hn.out]; exact hlt)
      obtain ⟨b1, o1, X1, X2, X3, X4, rfl, _, helb, c0, c1, c2⟩ := zdn (IsV.stb.to HX.out (zba HW.out)) hrx
      obtain ⟨bb0, e0⟩ : ∃ s, s = (raw x).neg := ⟨_, rfl⟩
      obtain ⟨bb1, e1⟩ : ∃ s, s = (raw x).num.length := ⟨_, rfl⟩
      rw [← e0] at c0 helb
      rw [← e1] at c1 helb
      have edl : (raw x).den = lim x.den := rfl
      rw [edl] at c2 helb
      have QX := Lib.hid (isR_isQ helb)
      have Hx := Lib.hid hx
      have Hxs := Lib.hid (Hs.out x (List.mem_of_getElem? hx))
      have Hst : Hid (zdy (l.take (k + 1)) = Nat.lcm (zdy (l.take k)) x.den) := by rw [Hid, zda hx, lcmTo_snoc]
      obtain ⟨L, hL⟩ : ∃ L, L = zdy (l.take k) := ⟨_, rfl⟩
      have Hll : Hid ((lim L).length ≤ 200000) := by
        rw [Hid, hL]
        have := lcmTo_len (l := l.take k) fun q hq => Hs.out q (List.mem_of_mem_take hq)
        have := List.length_take_le k l
        omega
      have HLp : Hid (0 < x.den) := x.den_pos
      rw [← hL] at HV Hst ⊢
      obtain ⟨nl, hnl⟩ : ∃ m, m = (lim L).length := ⟨_, rfl⟩
      rw [← hnl] at HV ⊢
      have cr := zbr
      have hk0 : (0 : Int) ≤ (k : Int) := by omega
      have hk1 : (k : Int) < (n : Int) := by omega
      obtain ⟨wx, hwx, hbx, rx, hzx⟩ := zcf wr #[.bool bb0, .slice X1 bb1 X2, .slice X3 (lim x.den).length X4] 50
      have BX := Lib.hid hbx
      have Q1 := Lib.hid (IsQ.stb.next QX.out hbx)
      have V1 := Lib.hid ((isN_new HV.out))
      have V1 := Lib.hid (IsK.stb.fresh V1.out hbx)
      have BB := Lib.hid (Bru.next HB.out (zaa HW.out hbx))
      have CX := Lib.hid ((zad rx).2.2)
      have HG : Hid (0 < Nat.gcd L x.den) := zeu _ x.den_nz
      have HGl : Hid ((lim (Nat.gcd L x.den)).length ≤ 1024) := gcd_le_r _ x.den_nz Hxs.out.2
      have Hlt := Lib.hid hlt
      clear hx hrx helb e0 e1 hbw hv hL hnl rx hzx hbx edl hlt
      go_wp2_with fail
      clear hwx c0 c1 c2
      have HS : Hid (∀ W : World, Below wx.heap.size wx W → W.cell? ⟨wr.heap.size, 2, none⟩ = some (.slice X3 (lim x.den).length X4)) := fun W hW => zac hW CX.out
      have D1 : Hid (∀ W : World, Below wx.heap.size wx W → Calls Tryd.prog 118 #[.slice P nl kp, .slice X3 (lim x.den).length X4] W (fun e w' => (∃ v, e = .returned v ∧ IsN w' W.heap.size w'.heap.size v (Nat.gcd L x.den)) ∧ Below W.heap.size W w')) := fun W hW => gcd_n (zal (IsK.stb.next (IsK.stb.old V1.out) hW)) (zal (IsK.stb.next (zcv Q1.out) hW)) (Bru.next BB.out hW) (Nat.le_trans Hll.out (by omega)) (Nat.le_trans Hxs.out.2 (by omega))
      go_region_held3 (fun w' => w'.cell? ⟨wr.heap.size, 2, none⟩ = some (.slice X3 (lim x.den).length X4))
        (exact HS.out _ (by (repeat (first | exact Below.refl _ _ | assumption | refine zae ?_ _ | refine zaf ?_ | refine zag ?_ ?_ _ _ _ | refine zai ?_ (by omega) | refine zaa ?_ (by assumption))); (first | done | fail)))
        (first
          | (go_at_call 118; (with_reducible refine Calls.mono (D1.out _ (by (repeat (first | exact Below.refl _ _ | assumption | refine zae ?_ _ | refine zaf ?_ | refine zag ?_ ?_ _ _ _ | refine zai ?_ (by omega) | refine zaa ?_ (by assumption))); (first | done | fail))) ?_); rintro e w1 ⟨⟨v1, rfl, hv1⟩, hb1⟩; have G1 := Lib.hid (isN_old hv1); obtain ⟨P1, k1, rfl, _, _, _⟩ := id hv1; have D2 : Hid (∀ W : World, Below w1.heap.size w1 W → Calls Tryd.prog 119 #[.slice X3 (lim x.den).length X4, .slice P1 (lim (Nat.gcd L x.den)).length k1] W (fun e w' => (∃ v, e = .returned v ∧ NumS w' (Old w') v (x.den / Nat.gcd L x.den)) ∧ Below W.heap.size W w')) := fun W hW => zdd (IsK.stb.next (zcv Q1.out) (by (repeat (first | exact Below.refl _ _ | assumption | refine zae ?_ _ | refine zaf ?_ | refine zag ?_ ?_ _ _ _ | refine zai ?_ (by omega) | refine zaa ?_ (by assumption))); (first | done | fail))) (zal (IsK.stb.next G1.out hW)) (Nat.le_trans Hxs.out.2 (by omega)) (Nat.le_trans HGl.out (by omega)) HG.out)
          | (go_at_call 119; (with_reducible refine Calls.mono (D2.out _ (by (repeat (first | exact Below.refl _ _ | assumption | refine zae ?_ _ | refine zaf ?_ | refine zag ?_ ?_ _ _ _ | refine zai ?_ (by omega) | refine zaa ?_ (by assumption))); (first | done | fail))) ?_); rintro e w2 ⟨⟨v2, rfl, hv2⟩, hb2⟩; have G2 := Lib.hid hv2; obtain ⟨P2, k2, rfl, _, _, _⟩ := id hv2; have D3 : Hid (∀ W : World, Below w2.heap.size w2 W → Calls Tryd.prog 97 #[.slice P nl kp, .slice P2 (lim (x.den / Nat.gcd L x.den)).length k2] W (fun e w' => (∃ v, e = .returned v ∧ IsN w' W.heap.size w'.heap.size v (L * (x.den / Nat.gcd L x.den))) ∧ Below W.heap.size W w')) := fun W hW => mul_n (zal (IsK.stb.next (IsK.stb.old V1.out) (by (repeat (first | exact Below.refl _ _ | assumption | refine zae ?_ _ | refine zaf ?_ | refine zag ?_ ?_ _ _ _ | refine zai ?_ (by omega) | refine zaa ?_ (by assumption))); (first | done | fail)))) (zal (IsK.stb.next G2.out hW)) (Nat.le_refl _) (Nat.le_refl _) (Nat.le_trans Hll.out (by omega)) (Nat.le_trans (zdt Hxs.out.2) (by omega)))
          | (go_at_call 97; (with_reducible refine Calls.mono (D3.out _ (by (repeat (first | exact Below.refl _ _ | assumption | refine zae ?_ _ | refine zaf ?_ | refine zag ?_ ?_ _ _ _ | refine zai ?_ (by omega) | refine zaa ?_ (by assumption))); (first | done | fail))) ?_); rintro e w3 ⟨⟨v3, rfl, hv3⟩, hb3⟩; have G3 := Lib.hid hv3; obtain ⟨P3, k3, rfl, _, _, _⟩ := id hv3))
      have B3 : Hid (Below wx.heap.size wx w3) := by rw [Hid]; exact (by (repeat (first | exact Below.refl _ _ | assumption | refine zae ?_ _ | refine zaf ?_ | refine zag ?_ ?_ _ _ _ | refine zai ?_ (by omega) | refine zaa ?_ (by assumption))); (first | done | fail))
      have hlow : w.heap.size ≤ w2.heap.size := by have h1 := HW.out.size; have h2 := BX.out.size; have h3 := hb1.size; have h4 := hb2.size; exact Nat.le_trans h1 (Nat.le_trans h2 (Nat.le_trans (by simpa using h3) h4))
      clear HS D1 D2 D3 hv1 hv2 hv3 hb1 hb2 hb3 G1 G2
      go_wp2_with fail
      go_roundw
      case rel => exact ⟨k + 1, Hlt.out, by go_num, zaa (zaa HW.out BX.out) B3.out, by rw [Hid, Hst.out, ← lcm_parts]; exact G3.out.wide hlow (Nat.le_refl _)⟩
      case measure => have := Hlt.out; simp [intOf]; omega
    · obtain rfl : k = n := by omega
      clear hbw hv
      go_wp2_with fail
      go_ret
      refine ⟨⟨_, rfl, ?_⟩, HW.out⟩
      have h := HV.out
      rw [List.take_of_length_le (Nat.le_of_eq Hn.out.symm)] at h ⊢
      exact h
def crossZ (a p b c : Int) (d : Nat) : Int := (a * p - b * c).tdiv (d : Int)
theorem sg_tdiv (s : Bool) (n d : Nat) : (sg s n).tdiv (d : Int) = sg s (n / d) := by
  cases s
  · rw [sg_false, sg_false, Int.ofNat_tdiv]
  · rw [sg_true, sg_true, Int.neg_tdiv, Int.ofNat_tdiv]
theorem cross_sum {a p b c : Int} {na np nb nc : Bool} (ha : na = decide (a < 0)) (hp : np = decide (p < 0)) (hb : nb = decide (b < 0)) (hc : nc = decide (c < 0)) {s : Bool} {n : Nat}
    (h : sg s n = sg (!(na == np)) (a.natAbs * p.natAbs) + sg (nb == nc) (b.natAbs * c.natAbs)) (d : Nat) : crossZ a p b c d = sg s (n / d) := by
  have h1 : sg (!(na == np)) (a.natAbs * p.natAbs) = a * p := by
    rw [show (!(na == np)) = (na != np) from rfl, sg_mul, ha, hp, sg_of, sg_of]
  have h2 : sg (nb == nc) (b.natAbs * c.natAbs) = -(b * c) := by
    rw [show (nb == nc) = !(nb != nc) by simp [bne], sg_not, sg_mul, hb, hc, sg_of, sg_of]
  unfold crossZ
  rw [show a * p - b * c = sg s n by rw [h, h1, h2]; omega, sg_tdiv]
theorem raw_sg (s : Bool) (n : Nat) : raw ((sg s n : Int) : Rat) = ⟨s && decide (0 < n), lim n, lim 1⟩ := by
  rw [raw_int, sg_natAbs]
  congr 1
  rcases Nat.eq_zero_or_pos n with h | h
  · subst h; simp [sg_zero]
  · rw [sg_neg (by omega)]; simp [h]
set_option maxRecDepth 100000 in
set_option maxHeartbeats 4000000 in
theorem cross_q {w : World} {va vp vb vc vd : Value} {qa qp qb qc : Rat} {d : Nat} (ha : IsQ w (Old w) va qa) (hp : IsQ w (Old w) vp qp) (hb : IsQ w (Old w) vb qb) (hc : IsQ w (Old w) vc qc) (hd : IsN w 0 w.heap.size vd d)
    (sa : Sz qa 500000) (sp : Sz qp 500000) (sb : Sz qb 500000) (sc : Sz qc 500000) (hdl : (lim d).length ≤ 1000000) (hd0 : 0 < d) : Calls Tryd.prog 128 #[va, vp, vb, vc, vd] w (RetQ w ((crossZ qa.num qp.num qb.num qc.num d : Int) : Rat)) := by
  have HQa := Lib.hid ha
  obtain ⟨nega, Aa, cAa, Ba, cBa, rfl, Hnega, Hna, Hda⟩ := zam ha
  have HQp := Lib.hid hp
  obtain ⟨negp, Ap, cAp, Bp, cBp, rfl, Hnegp, Hnp, Hdp⟩ := zam hp
  have HQb := Lib.hid hb
  obtain ⟨negb, Ab, cAb, Bb, cBb, rfl, Hnegb, Hnb, Hdb⟩ := zam hb
  have HQc := Lib.hid hc
  obtain ⟨negc, Ac, cAc, Bc, cBc, rfl, Hnegc, Hnc, Hdc⟩ := zam hc
  have HD := Lib.hid hd
  obtain ⟨C, cd, rfl, hld⟩ := isN_slice hd
  have Hsa := Lib.hid sa.1
  have Hsp := Lib.hid sp.1
  have Hsb := Lib.hid sb.1
  have Hsc := Lib.hid sc.1
  have Hdl := Lib.hid hdl
  have Hd0 := Lib.hid hd0
  obtain ⟨s1, hs1⟩ : ∃ s1 : Bool, (!(nega == negp)) = s1 := ⟨_, rfl⟩
  obtain ⟨s2, hs2⟩ : ∃ s2 : Bool, (negb == negc) = s2 := ⟨_, rfl⟩
  have HC : Hid (∀ s n, sg s n = sg s1 (qa.num.natAbs * qp.num.natAbs) + sg s2 (qb.num.natAbs * qc.num.natAbs) → crossZ qa.num qp.num qb.num qc.num d = sg s (n / d)) := by
    intro s n h
    rw [← hs1, ← hs2] at h
    exact cross_sum Hnega.out Hnegp.out Hnegb.out Hnegc.out h d
  clear ha hp hb hc hd sa sp sb sc hdl hd0
  obtain ⟨w0, hw0, hb0, ra, rp, rb, rc, rZ, Hz⟩ := boxes5 w #[.bool nega, .slice Aa (lim qa.num.natAbs).length cAa, .slice Ba (lim qa.den).length cBa] #[.bool negp, .slice Ap (lim qp.num.natAbs).length cAp, .slice Bp (lim qp.den).length cBp] #[.bool negb, .slice Ab (lim qb.num.natAbs).length cAb, .slice Bb (lim qb.den).length cBb] #[.bool negc, .slice Ac (lim qc.num.natAbs).length cAc, .slice Bc (lim qc.den).length cBc] #[.bool false, .slice none 0 0, .slice none 0 0] 50 50 50 50 50
  have Qa_0 := Lib.hid (IsQ.stb.next HQa.out hb0)
  have Ra_0 := Lib.hid (ra)
  have Qp_0 := Lib.hid (IsQ.stb.next HQp.out hb0)
  have Rp_0 := Lib.hid (rp)
  have Qb_0 := Lib.hid (IsQ.stb.next HQb.out hb0)
  have Rb_0 := Lib.hid (rb)
  have Qc_0 := Lib.hid (IsQ.stb.next HQc.out hb0)
  have Rc_0 := Lib.hid (rc)
  have Z_0 := Lib.hid (rZ)
  have bw_0 := Lib.hid (hb0)
  have sz_0 : Hid (w.heap.size + 5 ≤ w0.heap.size) := Lib.hid (Nat.le_of_eq Hz.out.symm)
  clear ra rp rb rc rZ hb0
  obtain ⟨cRa0_1, cRa1_1, cRa2_1⟩ := zad Ra_0.out
  obtain ⟨cRp0_2, cRp1_2, cRp2_2⟩ := zad Rp_0.out
  obtain ⟨cRb0_3, cRb1_3, cRb2_3⟩ := zad Rb_0.out
  obtain ⟨cRc0_4, cRc1_4, cRc2_4⟩ := zad Rc_0.out
  obtain ⟨cZ0_5, cZ1_5, cZ2_5⟩ := zad Z_0.out
  obtain ⟨fZ0_5, fZ1_5, fZ2_5⟩ := zaq Z_0.out
  have D_0 := Lib.hid (IsN.next HD.out bw_0.out)
  go_enter Tryd.func128, Tryd.ntmps128
  go_wp2_with fail
  clear hw0
  have Qa_1 := Lib.hid (IsQ.stb.next Qa_0.out (zab _))
  have Ra_1 := Lib.hid (Row.next Ra_0.out (zab _))
  have Qp_1 := Lib.hid (IsQ.stb.next Qp_0.out (zab _))
  have Rp_1 := Lib.hid (Row.next Rp_0.out (zab _))
  have Qb_1 := Lib.hid (IsQ.stb.next Qb_0.out (zab _))
  have Rb_1 := Lib.hid (Row.next Rb_0.out (zab _))
  have Qc_1 := Lib.hid (IsQ.stb.next Qc_0.out (zab _))
  have Rc_1 := Lib.hid (Row.next Rc_0.out (zab _))
  have Z_1 := Lib.hid (Row.next Z_0.out (zab _))
  have bw_1 := Lib.hid (zaa bw_0.out (zab _))
  have sz_1 := Lib.hid (zah sz_0.out (zab _))
  have D_1 := Lib.hid (IsN.next D_0.out (zab _))
  clear Qa_0 Ra_0 Qp_0 Rp_0 Qb_0 Rb_0 Qc_0 Rc_0 Z_0 bw_0 sz_0 D_0
  go_region_held3 (fun w' => w'.cell? ⟨w.heap.size, 0, none⟩ = some (.bool nega) ∧ w'.cell? ⟨w.heap.size, 1, none⟩ = some (.slice Aa (lim qa.num.natAbs).length cAa) ∧ w'.cell? ⟨w.heap.size + 1, 0, none⟩ = some (.bool negp) ∧ w'.cell? ⟨w.heap.size + 1, 1, none⟩ = some (.slice Ap (lim qp.num.natAbs).length cAp) ∧ w'.cell? ⟨w.heap.size + 2, 0, none⟩ = some (.bool negb) ∧ w'.cell? ⟨w.heap.size + 2, 1, none⟩ = some (.slice Ab (lim qb.num.natAbs).length cAb) ∧ w'.cell? ⟨w.heap.size + 3, 0, none⟩ = some (.bool negc) ∧ w'.cell? ⟨w.heap.size + 3, 1, none⟩ = some (.slice Ac (lim qc.num.natAbs).length cAc))
    (first
      | exact ⟨cRa0_1, cRa1_1, cRp0_2, cRp1_2, cRb0_3, cRb1_3, cRc0_4, cRc1_4⟩
      | exact ⟨cRa0_6, cRa1_6, cRp0_7, cRp1_7, cRb0_8, cRb1_8, cRc0_9, cRc1_9⟩
      | exact ⟨cRa0_11, cRa1_11, cRp0_12, cRp1_12, cRb0_13, cRb1_13, cRc0_14, cRc1_14⟩
      | exact ⟨cRa0_16, cRa1_16, cRp0_17, cRp1_17, cRb0_18, cRb1_18, cRc0_19, cRc1_19⟩)
    (first
      | (go_at_call 97; have hc := mul_n (zal (zdm Qa_1.out)) (zal (zdm Qp_1.out)) (Nat.le_refl _) (Nat.le_refl _) (Nat.le_trans Hsa.out (by omega)) (Nat.le_trans Hsp.out (by omega)); (with_reducible refine hc.mono ?_); clear hc; rintro e w1 ⟨⟨v1, rfl, hv1⟩, hb⟩; have newM1 := Lib.hid (zaz hv1 sz_1.out); have Qa_2 := Lib.hid (IsQ.stb.next Qa_1.out (hb)); have Ra_2 := Lib.hid (Row.next Ra_1.out (hb)); have Qp_2 := Lib.hid (IsQ.stb.next Qp_1.out (hb)); have Rp_2 := Lib.hid (Row.next Rp_1.out (hb)); have Qb_2 := Lib.hid (IsQ.stb.next Qb_1.out (hb)); have Rb_2 := Lib.hid (Row.next Rb_1.out (hb)); have Qc_2 := Lib.hid (IsQ.stb.next Qc_1.out (hb)); have Rc_2 := Lib.hid (Row.next Rc_1.out (hb)); have Z_2 := Lib.hid (Row.next Z_1.out (hb)); have bw_2 := Lib.hid (zaa bw_1.out (hb)); have sz_2 := Lib.hid (zah sz_1.out (hb)); have D_2 := Lib.hid (IsN.next D_1.out (hb)); clear Qa_1 Ra_1 Qp_1 Rp_1 Qb_1 Rb_1 Qc_1 Rc_1 Z_1 bw_1 sz_1 D_1; have M1_0 := newM1; clear newM1; obtain ⟨P1, k1, rfl, _, _, _⟩ := id hv1; clear cRa0_1 cRa1_1 cRa2_1 cRp0_2 cRp1_2 cRp2_2 cRb0_3 cRb1_3 cRb2_3 cRc0_4 cRc1_4 cRc2_4 cZ0_5 cZ1_5 cZ2_5 fZ0_5 fZ1_5 fZ2_5; obtain ⟨cRa0_6, cRa1_6, cRa2_6⟩ := zad Ra_2.out; obtain ⟨cRp0_7, cRp1_7, cRp2_7⟩ := zad Rp_2.out; obtain ⟨cRb0_8, cRb1_8, cRb2_8⟩ := zad Rb_2.out; obtain ⟨cRc0_9, cRc1_9, cRc2_9⟩ := zad Rc_2.out; obtain ⟨cZ0_10, cZ1_10, cZ2_10⟩ := zad Z_2.out; obtain ⟨fZ0_10, fZ1_10, fZ2_10⟩ := zaq Z_2.out)
      | (go_at_call 97; have hc := mul_n (zal (zdm Qb_2.out)) (zal (zdm Qc_2.out)) (Nat.le_refl _) (Nat.le_refl _) (Nat.le_trans Hsb.out (by omega)) (Nat.le_trans Hsc.out (by omega)); (with_reducible refine hc.mono ?_); clear hc; rintro e w2 ⟨⟨v2, rfl, hv2⟩, hb⟩; have newM2 := Lib.hid (zaz hv2 sz_2.out); have Qa_3 := Lib.hid (IsQ.stb.next Qa_2.out (hb)); have Ra_3 := Lib.hid (Row.next Ra_2.out (hb)); have Qp_3 := Lib.hid (IsQ.stb.next Qp_2.out (hb)); have Rp_3 := Lib.hid (Row.next Rp_2.out (hb)); have Qb_3 := Lib.hid (IsQ.stb.next Qb_2.out (hb)); have Rb_3 := Lib.hid (Row.next Rb_2.out (hb)); have Qc_3 := Lib.hid (IsQ.stb.next Qc_2.out (hb)); have Rc_3 := Lib.hid (Row.next Rc_2.out (hb)); have Z_3 := Lib.hid (Row.next Z_2.out (hb)); have bw_3 := Lib.hid (zaa bw_2.out (hb)); have sz_3 := Lib.hid (zah sz_2.out (hb)); have D_3 := Lib.hid (IsN.next D_2.out (hb)); have M1_1 := Lib.hid (IsK.stb.fresh M1_0.out (hb)); clear Qa_2 Ra_2 Qp_2 Rp_2 Qb_2 Rb_2 Qc_2 Rc_2 Z_2 bw_2 sz_2 D_2 M1_0; have M2_0 := newM2; clear newM2; obtain ⟨P2, k2, rfl, _, _, _⟩ := id hv2; clear cRa0_6 cRa1_6 cRa2_6 cRp0_7 cRp1_7 cRp2_7 cRb0_8 cRb1_8 cRb2_8 cRc0_9 cRc1_9 cRc2_9 cZ0_10 cZ1_10 cZ2_10 fZ0_10 fZ1_10 fZ2_10; obtain ⟨cRa0_11, cRa1_11, cRa2_11⟩ := zad Ra_3.out; obtain ⟨cRp0_12, cRp1_12, cRp2_12⟩ := zad Rp_3.out; obtain ⟨cRb0_13, cRb1_13, cRb2_13⟩ := zad Rb_3.out; obtain ⟨cRc0_14, cRc1_14, cRc2_14⟩ := zad Rc_3.out; obtain ⟨cZ0_15, cZ1_15, cZ2_15⟩ := zad Z_3.out; obtain ⟨fZ0_15, fZ1_15, fZ2_15⟩ := zaq Z_3.out)
      | (go_at_call 120; have hc := join_n s1 s2 (zal (IsK.stb.old M1_1.out)) (zal (IsK.stb.old M2_0.out)) (Nat.le_trans (sz_mul Hsa.out Hsp.out) (by omega)) (Nat.le_trans (sz_mul Hsb.out Hsc.out) (by omega)); (with_reducible refine hc.mono ?_); clear hc; rintro e w3 ⟨⟨s, v3, n, rfl, hsum, hv3, hnl⟩, hb⟩; have newJ := Lib.hid (zaz hv3 sz_3.out); have Qa_4 := Lib.hid (IsQ.stb.next Qa_3.out (hb)); have Ra_4 := Lib.hid (Row.next Ra_3.out (hb)); have Qp_4 := Lib.hid (IsQ.stb.next Qp_3.out (hb)); have Rp_4 := Lib.hid (Row.next Rp_3.out (hb)); have Qb_4 := Lib.hid (IsQ.stb.next Qb_3.out (hb)); have Rb_4 := Lib.hid (Row.next Rb_3.out (hb)); have Qc_4 := Lib.hid (IsQ.stb.next Qc_3.out (hb)); have Rc_4 := Lib.hid (Row.next Rc_3.out (hb)); have Z_4 := Lib.hid (Row.next Z_3.out (hb)); have bw_4 := Lib.hid (zaa bw_3.out (hb)); have sz_4 := Lib.hid (zah sz_3.out (hb)); have D_4 := Lib.hid (IsN.next D_3.out (hb)); have M1_2 := Lib.hid (IsK.stb.fresh M1_1.out (hb)); have M2_1 := Lib.hid (IsK.stb.fresh M2_0.out (hb)); clear Qa_3 Ra_3 Qp_3 Rp_3 Qb_3 Rb_3 Qc_3 Rc_3 Z_3 bw_3 sz_3 D_3 M1_1 M2_0; have J_0 := newJ; clear newJ; obtain ⟨P3, k3, rfl, _, _, _⟩ := id hv3; have Hnl := Lib.hid hnl; have Hs := Lib.hid (HC.out s n hsum.out); clear hsum hnl; clear cRa0_11 cRa1_11 cRa2_11 cRp0_12 cRp1_12 cRp2_12 cRb0_13 cRb1_13 cRb2_13 cRc0_14 cRc1_14 cRc2_14 cZ0_15 cZ1_15 cZ2_15 fZ0_15 fZ1_15 fZ2_15; obtain ⟨cRa0_16, cRa1_16, cRa2_16⟩ := zad Ra_4.out; obtain ⟨cRp0_17, cRp1_17, cRp2_17⟩ := zad Rp_4.out; obtain ⟨cRb0_18, cRb1_18, cRb2_18⟩ := zad Rb_4.out; obtain ⟨cRc0_19, cRc1_19, cRc2_19⟩ := zad Rc_4.out; obtain ⟨cZ0_20, cZ1_20, cZ2_20⟩ := zad Z_4.out; obtain ⟨fZ0_20, fZ1_20, fZ2_20⟩ := zaq Z_4.out))
  go_wp2_with fail
  clear hs1 hs2
  refine (over_new J_0.out sz_4.out D_4.out (Nat.le_trans Hnl.out (by omega)) (Nat.le_trans Hdl.out (by omega)) Hd0.out).mono ?_
  rintro e w4 ⟨⟨v4, rfl, hv4⟩, hb⟩
  have newE := Lib.hid (hv4)
  have Qa_5 := Lib.hid (IsQ.stb.next Qa_4.out (hb))
  have Ra_5 := Lib.hid (Row.next Ra_4.out (hb))
  have Qp_5 := Lib.hid (IsQ.stb.next Qp_4.out (hb))
  have Rp_5 := Lib.hid (Row.next Rp_4.out (hb))
  have Qb_5 := Lib.hid (IsQ.stb.next Qb_4.out (hb))
  have Rb_5 := Lib.hid (Row.next Rb_4.out (hb))
  have Qc_5 := Lib.hid (IsQ.stb.next Qc_4.out (hb))
  have Rc_5 := Lib.hid (Row.next Rc_4.out (hb))
  have Z_5 := Lib.hid (Row.next Z_4.out (hb))
  have bw_5 := Lib.hid (zaa bw_4.out (hb))
  have sz_5 := Lib.hid (zah sz_4.out (hb))
  have D_5 := Lib.hid (IsN.next D_4.out (hb))
  have M1_3 := Lib.hid (IsK.stb.fresh M1_2.out (hb))
  have M2_2 := Lib.hid (IsK.stb.fresh M2_1.out (hb))
  have J_1 := Lib.hid (IsK.stb.fresh J_0.out (hb))
  clear Qa_4 Ra_4 Qp_4 Rp_4 Qb_4 Rb_4 Qc_4 Rc_4 Z_4 bw_4 sz_4 D_4 M1_2 M2_1 J_0
  have E_0 := newE
  clear newE
  obtain ⟨P4, k4, rfl, _, _, _⟩ := id hv4
  clear cRa0_16 cRa1_16 cRa2_16 cRp0_17 cRp1_17 cRp2_17 cRb0_18 cRb1_18 cRb2_18 cRc0_19 cRc1_19 cRc2_19 cZ0_20 cZ1_20 cZ2_20 fZ0_20 fZ1_20 fZ2_20
  obtain ⟨cRa0_21, cRa1_21, cRa2_21⟩ := zad Ra_5.out
  obtain ⟨cRp0_22, cRp1_22, cRp2_22⟩ := zad Rp_5.out
  obtain ⟨cRb0_23, cRb1_23, cRb2_23⟩ := zad Rb_5.out
  obtain ⟨cRc0_24, cRc1_24, cRc2_24⟩ := zad Rc_5.out
  obtain ⟨cZ0_25, cZ1_25, cZ2_25⟩ := zad Z_5.out
  obtain ⟨fZ0_25, fZ1_25, fZ2_25⟩ := zaq Z_5.out
  cases s with
  | false =>
    go_wp2_with fail
    refine (one_n _).mono ?_
    rintro e w5 ⟨⟨v5, rfl, hv5⟩, hb⟩
    have newV2 := Lib.hid (zaz hv5 sz_5.out)
    have Qa_6 := Lib.hid (IsQ.stb.next Qa_5.out (hb))
    have Ra_6 := Lib.hid (Row.next Ra_5.out (hb))
    have Qp_6 := Lib.hid (IsQ.stb.next Qp_5.out (hb))
    have Rp_6 := Lib.hid (Row.next Rp_5.out (hb))
    have Qb_6 := Lib.hid (IsQ.stb.next Qb_5.out (hb))
    have Rb_6 := Lib.hid (Row.next Rb_5.out (hb))
    have Qc_6 := Lib.hid (IsQ.stb.next Qc_5.out (hb))
    have Rc_6 := Lib.hid (Row.next Rc_5.out (hb))
    have Z_6 := Lib.hid (Row.next Z_5.out (hb))
    have bw_6 := Lib.hid (zaa bw_5.out (hb))
    have sz_6 := Lib.hid (zah sz_5.out (hb))
    have D_6 := Lib.hid (IsN.next D_5.out (hb))
    have M1_4 := Lib.hid (IsK.stb.fresh M1_3.out (hb))
    have M2_3 := Lib.hid (IsK.stb.fresh M2_2.out (hb))
    have J_2 := Lib.hid (IsK.stb.fresh J_1.out (hb))
    have E_1 := Lib.hid (IsK.stb.fresh E_0.out (hb))
    clear Qa_5 Ra_5 Qp_5 Rp_5 Qb_5 Rb_5 Qc_5 Rc_5 Z_5 bw_5 sz_5 D_5 M1_3 M2_2 J_1 E_0
    have V2_0 := newV2
    clear newV2
    obtain ⟨P5, k5, rfl, _, _, _⟩ := id hv5
    clear cRa0_21 cRa1_21 cRa2_21 cRp0_22 cRp1_22 cRp2_22 cRb0_23 cRb1_23 cRb2_23 cRc0_24 cRc1_24 cRc2_24 cZ0_25 cZ1_25 cZ2_25 fZ0_25 fZ1_25 fZ2_25
    obtain ⟨cRa0_26, cRa1_26, cRa2_26⟩ := zad Ra_6.out
    obtain ⟨cRp0_27, cRp1_27, cRp2_27⟩ := zad Rp_6.out
    obtain ⟨cRb0_28, cRb1_28, cRb2_28⟩ := zad Rb_6.out
    obtain ⟨cRc0_29, cRc1_29, cRc2_29⟩ := zad Rc_6.out
    obtain ⟨cZ0_30, cZ1_30, cZ2_30⟩ := zad Z_6.out
    obtain ⟨fZ0_30, fZ1_30, fZ2_30⟩ := zaq Z_6.out
    go_wp2_with fail
    refine zbc Tryd.results128 rfl rfl (Row.put3 Z_6.out _ _ _) (retQ (by rw [Hs.out, raw_sg]; rfl) bw_6.out (by omega) E_1.out V2_0.out (by omega) (by omega))
  | true =>
    rcases Nat.eq_zero_or_pos (n / d) with hz | hz
    · have e1 : decide (0 < (lim (n / d)).length) = false := by rw [hz, zbd]; rfl
      have Hz := Lib.hid hz
      clear hz
      go_wp2_with fail
      refine (one_n _).mono ?_
      rintro e w5 ⟨⟨v5, rfl, hv5⟩, hb⟩
      have newV2 := Lib.hid (zaz hv5 sz_5.out)
      have Qa_6 := Lib.hid (IsQ.stb.next Qa_5.out (hb))
      have Ra_6 := Lib.hid (Row.next Ra_5.out (hb))
      have Qp_6 := Lib.hid (IsQ.stb.next Qp_5.out (hb))
      have Rp_6 := Lib.hid (Row.next Rp_5.out (hb))
      have Qb_6 := Lib.hid (IsQ.stb.next Qb_5.out (hb))
      have Rb_6 := Lib.hid (Row.next Rb_5.out (hb))
      have Qc_6 := Lib.hid (IsQ.stb.next Qc_5.out (hb))
      have Rc_6 := Lib.hid (Row.next Rc_5.out (hb))
      have Z_6 := Lib.hid (Row.next Z_5.out (hb))
      have bw_6 := Lib.hid (zaa bw_5.out (hb))
      have sz_6 := Lib.hid (zah sz_5.out (hb))
      have D_6 := Lib.hid (IsN.next D_5.out (hb))
      have M1_4 := Lib.hid (IsK.stb.fresh M1_3.out (hb))
      have M2_3 := Lib.hid (IsK.stb.fresh M2_2.out (hb))
      have J_2 := Lib.hid (IsK.stb.fresh J_1.out (hb))
      have E_1 := Lib.hid (IsK.stb.fresh E_0.out (hb))
      clear Qa_5 Ra_5 Qp_5 Rp_5 Qb_5 Rb_5 Qc_5 Rc_5 Z_5 bw_5 sz_5 D_5 M1_3 M2_2 J_1 E_0
      have V2_0 := newV2
      clear newV2
      obtain ⟨P5, k5, rfl, _, _, _⟩ := id hv5
      clear cRa0_21 cRa1_21 cRa2_21 cRp0_22 cRp1_22 cRp2_22 cRb0_23 cRb1_23 cRb2_23 cRc0_24 cRc1_24 cRc2_24 cZ0_25 cZ1_25 cZ2_25 fZ0_25 fZ1_25 fZ2_25
      obtain ⟨cRa0_26, cRa1_26, cRa2_26⟩ := zad Ra_6.out
      obtain ⟨cRp0_27, cRp1_27, cRp2_27⟩ := zad Rp_6.out
      obtain ⟨cRb0_28, cRb1_28, cRb2_28⟩ := zad Rb_6.out
      obtain ⟨cRc0_29, cRc1_29, cRc2_29⟩ := zad Rc_6.out
      obtain ⟨cZ0_30, cZ1_30, cZ2_30⟩ := zad Z_6.out
      obtain ⟨fZ0_30, fZ1_30, fZ2_30⟩ := zaq Z_6.out
      go_wp2_with fail
      refine zbc Tryd.results128 rfl rfl (Row.put3 Z_6.out _ _ _) (retQ (by rw [Hs.out, raw_sg]; rw [Hz.out]; rfl) bw_6.out (by omega) E_1.out V2_0.out (by omega) (by omega))
    · have e1 : decide (0 < (lim (n / d)).length) = true := decide_eq_true (len_gt (by omega))
      have Hz := Lib.hid hz
      clear hz
      go_wp2_with fail
      refine (one_n _).mono ?_
      rintro e w5 ⟨⟨v5, rfl, hv5⟩, hb⟩
      have newV2 := Lib.hid (zaz hv5 sz_5.out)
      have Qa_6 := Lib.hid (IsQ.stb.next Qa_5.out (hb))
      have Ra_6 := Lib.hid (Row.next Ra_5.out (hb))
      have Qp_6 := Lib.hid (IsQ.stb.next Qp_5.out (hb))
      have Rp_6 := Lib.hid (Row.next Rp_5.out (hb))
      have Qb_6 := Lib.hid (IsQ.stb.next Qb_5.out (hb))
      have Rb_6 := Lib.hid (Row.next Rb_5.out (hb))
      have Qc_6 := Lib.hid (IsQ.stb.next Qc_5.out (hb))
      have Rc_6 := Lib.hid (Row.next Rc_5.out (hb))
      have Z_6 := Lib.hid (Row.next Z_5.out (hb))
      have bw_6 := Lib.hid (zaa bw_5.out (hb))
      have sz_6 := Lib.hid (zah sz_5.out (hb))
      have D_6 := Lib.hid (IsN.next D_5.out (hb))
      have M1_4 := Lib.hid (IsK.stb.fresh M1_3.out (hb))
      have M2_3 := Lib.hid (IsK.stb.fresh M2_2.out (hb))
      have J_2 := Lib.hid (IsK.stb.fresh J_1.out (hb))
      have E_1 := Lib.hid (IsK.stb.fresh E_0.out (hb))
      clear Qa_5 Ra_5 Qp_5 Rp_5 Qb_5 Rb_5 Qc_5 Rc_5 Z_5 bw_5 sz_5 D_5 M1_3 M2_2 J_1 E_0
      have V2_0 := newV2
      clear newV2
      obtain ⟨P5, k5, rfl, _, _, _⟩ := id hv5
      clear cRa0_21 cRa1_21 cRa2_21 cRp0_22 cRp1_22 cRp2_22 cRb0_23 cRb1_23 cRb2_23 cRc0_24 cRc1_24 cRc2_24 cZ0_25 cZ1_25 cZ2_25 fZ0_25 fZ1_25 fZ2_25
      obtain ⟨cRa0_26, cRa1_26, cRa2_26⟩ := zad Ra_6.out
      obtain ⟨cRp0_27, cRp1_27, cRp2_27⟩ := zad Rp_6.out
      obtain ⟨cRb0_28, cRb1_28, cRb2_28⟩ := zad Rb_6.out
      obtain ⟨cRc0_29, cRc1_29, cRc2_29⟩ := zad Rc_6.out
      obtain ⟨cZ0_30, cZ1_30, cZ2_30⟩ := zad Z_6.out
      obtain ⟨fZ0_30, fZ1_30, fZ2_30⟩ := zaq Z_6.out
      go_wp2_with fail
      refine zbc Tryd.results128 rfl rfl (Row.put3 Z_6.out _ _ _) (retQ (by rw [Hs.out, raw_sg]; rw [decide_eq_true Hz.out]; rfl) bw_6.out (by omega) E_1.out V2_0.out (by omega) (by omega))
end Go.Proofs.YtjkgdggkgljdoaaDoor
namespace Go.Proofs.YtjkgdggkgljdoaaDoor
set_option linter.unusedVariables false
theorem tdiv_of {a : Int} {d : Nat} {z : Int} (hd : 0 < d) (h : (a : Rat) / ((d : Int) : Rat) = (z : Rat)) : a.tdiv (d : Int) = z := by
  have hd0 : ((d : Int) : Rat) ≠ 0 := by
    intro e
    have : (d : Int) = 0 := Rat.intCast_inj.1 (by rw [e]; rfl)
    omega
  have h1 : (a : Rat) = (z : Rat) * ((d : Int) : Rat) := by rw [← h, Rat.div_mul_cancel hd0]
  have h2 : a = z * (d : Int) := by rw [← Rat.intCast_mul] at h1; exact Rat.intCast_inj.1 h1
  rw [h2]
  exact Int.mul_tdiv_cancel _ (by omega)
def zbj (M : List (List Rat)) (i j : Nat) : Int := ((M.getD i []).getD j 0).num * ((zdy (M.getD i []) / ((M.getD i []).getD j 0).den : Nat) : Int)
theorem liftM_at {M : List (List Rat)} {i j : Nat} {r : List Rat} {x : Rat} (hr : M[i]? = some r) (hx : r[j]? = some x) : zbj M i j = x.num * ((zdy r / x.den : Nat) : Int) := by
  unfold zbj
  have e1 : M.getD i [] = r := by rw [List.getD_eq_getElem?_getD, hr, Option.getD_some]
  have e2 : r.getD j 0 = x := by rw [List.getD_eq_getElem?_getD, hx, Option.getD_some]
  rw [e1, e2]
theorem zdi {b : List (List Rat)} {i j : Nat} {r : List Rat} {x : Rat} (hr : b[i]? = some r) (hx : r[j]? = some x) : ((zbj b i j : Int) : Rat) = x * ((zdy r : Nat) : Rat) := by
  rw [liftM_at hr hx, Rat.intCast_mul]
  have hd : x.den ∣ zdy r := lcmTo_dvd (List.mem_of_getElem? hx)
  obtain ⟨c, hc⟩ := hd
  have h1 : zdy r / x.den = c := by rw [hc]; exact Nat.mul_div_cancel_left c x.den_pos
  rw [h1, hc, Rat.natCast_mul]
  have h2 : (x.num : Rat) = x * ((x.den : Nat) : Rat) := by
    have h3 := Rat.mkRat_self x
    rw [Rat.mkRat_eq_div] at h3
    have h4 : ((x.den : Nat) : Rat) ≠ 0 := cast_ne x.den_pos
    have h5 := Rat.div_mul_cancel (a := (x.num : Rat)) h4
    rw [h3] at h5
    exact h5.symm
  rw [h2]
  show x * _ * ((c : Nat) : Rat) = _
  grind
def zdr (M : List (List Rat)) (b : List Rat) (k : Nat) : List (List Rat) := (List.range k).map fun i => M.getD i [] ++ [b.getD i 0]
theorem wideB_snoc (M : List (List Rat)) (b : List Rat) (k : Nat) : zdr M b (k + 1) = zdr M b k ++ [M.getD k [] ++ [b.getD k 0]] := by unfold zdr; rw [List.range_succ, List.map_append]; rfl
theorem wideB_len (M : List (List Rat)) (b : List Rat) (k : Nat) : (zdr M b k).length = k := by unfold zdr; simp
theorem wideB_at {M : List (List Rat)} {b r : List Rat} {n m i : Nat} (hi : i < n) (hr : M[i]? = some r) : (zdr M b n)[i]? = some (r ++ [b.getD i 0]) := by
  unfold zdr
  rw [List.getElem?_map, List.getElem?_range hi, Option.map_some, List.getD_eq_getElem?_getD, hr]
  rfl
theorem getD_app1 {r : List Rat} {x : Rat} {m j : Nat} (hl : r.length = m) (hj : j < m) : (r ++ [x])[j]? = some (r.getD j 0) := by
  rw [List.getElem?_append_left (by omega), List.getD_eq_getElem?_getD, List.getElem?_eq_getElem (by omega)]; rfl
theorem getD_app2 {r : List Rat} {x : Rat} {m : Nat} (hl : r.length = m) : (r ++ [x])[m]? = some x := by
  rw [List.getElem?_append_right (by omega), hl, Nat.sub_self]; rfl
theorem cancelL {a b L : Rat} (hL : L ≠ 0) (h : a * L = b * L) : a = b := by
  have h4 := Rat.mul_inv_cancel _ hL
  have h5 : (a * L) * L⁻¹ = (b * L) * L⁻¹ := by rw [h]
  rw [Rat.mul_assoc, Rat.mul_assoc, h4, Rat.mul_one, Rat.mul_one] at h5
  exact h5
end Go.Proofs.YtjkgdggkgljdoaaDoor
namespace Go.Proofs.YtjkgdggkgljdoaaDoor
open Go.RowKit Go.WideShapes Go.ChangeShapes
set_option linter.unusedVariables false
theorem own : ownKnob Tryd.prog.godebug = none := by kernel_rfl
theorem laidOut : laidOutB Tryd.prog = true := by kernel_rfl
section
variable {H : Type} {enc : TypeId × Value → H} {P : Program}
theorem post_below {f : Func} {s : ChangeSpec} {apart fresh handsOn again : Bool} {W W' : World} {args : Array Value} {v : Value} {ds gs : List (DataW H)} {before pa pv : List MemPlace}
    (hW : DataW.Whole enc P f.params.toList s.vars apart W args.toList ds gs before)
    (hres : ∀ (b : Nat) (sp : Nat → Bool) (hd : Bool), DataW.TrodAll enc P W' b sp hd f.resultTypes.toList (v.resultList f.resultTypes.size) (s.fn H (ds ++ gs)).results [])
    (hargs : ∀ sp : Nat → Bool, (∀ p ∈ before, sp p.block = true) → DataW.TrodAll enc P W' 0 sp true f.params.toList args.toList (s.fn H (ds ++ gs)).args pa)
    (hvars : ∀ sp : Nat → Bool, (∀ p ∈ before, sp p.block = true) → DataW.TrodVars enc P W' sp s.vars (s.fn H (ds ++ gs)).vars pv)
    (hps : before = pa ++ pv) (hb : Below W.heap.size W W')
    (hok : ∀ (j : Nat) (t : TypeId) (r : Value), f.resultTypes[j]? = some t → (v.resultList f.resultTypes.size)[j]? = some r → Value.okWide P W' .any 0 t r) :
    s.post enc P f apart fresh handsOn again W args v W' := by
  have hlt : ∀ p ∈ before, p.block < W.heap.size := fun p hp => hW.lt p hp
  have hold : ∀ p ∈ before, (fun b => decide (b < W.heap.size)) p.block = true := fun p hp => by simpa using hlt p hp
  refine ⟨ds, gs, before, [], pa, pv, hW, hres _ _ _, hargs _ hold, hvars _ hold, World.keptBut_mono (fun p hp => ⟨hp, ?_⟩) (hb.frame (· ∈ before)), fun _ => ?_⟩
  · rw [hps, List.mem_append] at hp
    exact Or.inr hp
  · obtain ⟨_, _, _, _, _, hz, hn⟩ := hW
    refine ⟨hok, _, _, ([] ++ pa) ++ pv, ⟨[] ++ pa, pv, trodAll_append (hargs _ (fun _ _ => rfl)) (hres _ _ _), hvars _ (fun _ _ => rfl), rfl, ?_, ?_⟩, ?_⟩
    · intro b off hp
      have hin : MemPlace.cell b off ∈ before := by rw [hps]; simpa using hp
      rw [hb.frozen (hlt _ hin)]
      exact hz b off hin
    · intro ha
      have := hn ha
      rw [hps] at this
      simpa using this
    · intro p hp _
      rw [hps]
      simpa using hp
end
end Go.Proofs.YtjkgdggkgljdoaaDoor
namespace Go.Proofs.YtjkgdggkgljdoaaDoor
open Go.RowKit Go.WideShapes Go.ChangeShapes Go.Deep
set_option linter.unusedVariables false
section
variable {H : Type} {enc : TypeId × Value → H} {w : World} {base : Nat} {sp : Nat → Bool} {held : Bool}
end
end Go.Proofs.YtjkgdggkgljdoaaDoor
