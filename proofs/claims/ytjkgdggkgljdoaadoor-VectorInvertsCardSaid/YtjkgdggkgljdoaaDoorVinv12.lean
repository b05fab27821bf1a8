/-
  Contracts of package vector: bounded, boundedRows.
-/
import Derived.Test.YtjkgdggkgljdoaaDoorVinv06
import Derived.Test.YtjkgdggkgljdoaaDoorVinv07
import Derived.Test.YtjkgdggkgljdoaaDoorVinv11
import Derived.Test.YtjkgdggkgljdoaaDoorVinv09
import Derived.Test.YtjkgdggkgljdoaaDoorVinv10
import Derived.Test.YtjkgdggkgljdoaaDoorVinv02
import Derived.BigRegion
namespace Go.Proofs.YtjkgdggkgljdoaaDoor
open Go.RowKit
set_option linter.unusedVariables false
def bndV (v : Value) (l : List Rat) : Ending := .returned (.tuple #[if l.all fitsQ then v else .slice none 0 0, .int .i64 (if l.all fitsQ then 0 else 5)])
theorem all_take {α : Type} {l : List α} {p : α → Bool} {k : Nat} {x : α} (h : (l.take k).all p = true) (hx : l[k]? = some x) (hp : p x = true) : (l.take (k + 1)).all p = true := by
  rw [zda hx, List.all_append, h]
  simp [hp]
theorem all_not {α : Type} {l : List α} {p : α → Bool} {k : Nat} {x : α} (hx : l[k]? = some x) (hp : p x = false) : l.all p = false := by
  cases h : l.all p with
  | false => rfl
  | true => rw [List.all_eq_true] at h; rw [h x (List.mem_of_getElem? hx)] at hp; cases hp
set_option maxHeartbeats 2000000 in
theorem bounded_l {w : World} {v : Value} {l : List Rat} (h : IsV w (Old w) v (rawV l)) : Calls Tryd.prog 77 #[v] w fun e w' => e = bndV v l ∧ Below w.heap.size w w' := by
  have H := Lib.hid h
  obtain ⟨A, c, rfl, hl⟩ := zcm h
  obtain ⟨n, hn⟩ : ∃ n, n = l.length := ⟨_, rfl⟩
  have el : (rawV l).length = n := by simp [rawV, hn]
  rw [el] at hl H ⊢
  have Hn := Lib.hid hn
  clear h el hn
  go_enter Tryd.func77, Tryd.ntmps77
  go_wp2_with fail
  go_loopw [8, 5] (fun i _ wr => ∃ k : Nat, k ≤ n ∧ i = .int .i64 (k : Int) ∧ Below w.heap.size w wr ∧ Hid ((l.take k).all fitsQ = true)) (fun i _ _ => n - (intOf i).toNat)
  case atStart => exact ⟨0, Nat.zero_le _, rfl, Below.refl _ _, by simp [Hid]⟩
  case round =>
    obtain ⟨k, hk, rfl, hbw, hall⟩ := hrel
    have HW := Lib.hid hbw
    rcases Nat.lt_or_ge k n with hlt | hge
    · obtain ⟨x, hx, hrx⟩ := zeh (l := l) (j := k) (by rw [← Hn.out]; exact hlt)
      obtain ⟨b1, o1, X1, X2, X3, X4, rfl, hSb1, helx, c0, c1, c2⟩ := zdn H.out hrx
      obtain ⟨x0, hx0⟩ : ∃ s, s = (raw x).neg := ⟨_, rfl⟩
      obtain ⟨x1, hx1⟩ : ∃ s, s = (raw x).num.length := ⟨_, rfl⟩
      obtain ⟨x2, hx2⟩ : ∃ s, s = (raw x).den.length := ⟨_, rfl⟩
      rw [← hx0] at c0
      rw [← hx1] at c1
      rw [← hx2] at c2
      rw [← hx0, ← hx1, ← hx2] at helx
      replace c0 := hbw.cell (p := ⟨b1, o1 + k * 3, none⟩) hSb1 |>.trans c0
      replace c1 := hbw.cell (p := ⟨b1, o1 + k * 3 + 1, none⟩) hSb1 |>.trans c1
      replace c2 := hbw.cell (p := ⟨b1, o1 + k * 3 + 2, none⟩) hSb1 |>.trans c2
      have Qx := Lib.hid (IsQ.stb.to (isR_isQ helx) (zba hbw))
      have Hx := Lib.hid hx
      have cr := zbr
      obtain ⟨f, hf⟩ : ∃ f, f = fitsQ x := ⟨_, rfl⟩
      have Hf := Lib.hid hf
      obtain ⟨wx, hwx, hbx, rE, Hzx⟩ := zcf wr #[.bool x0, .slice X1 x1 X2, .slice X3 x2 X4] 50
      have RE := Lib.hid rE
      have HBX := Lib.hid (zaa HW.out hbx)
      have QX := Lib.hid (IsQ.stb.next Qx.out hbx)
      obtain ⟨g0, g1, g2⟩ := zad rE
      clear hx hrx helx hx0 hx1 hx2 hSb1 hf rE hbx hbw
      cases f with
      | true =>
        go_wp2_with fail
        refine (fits_q QX.out).mono ?_
        rw [← Hf.out]
        rintro e w2 ⟨rfl, hb2⟩
        have HB2 := Lib.hid (zaa HBX.out hb2)
        clear hb2 g0 g1 g2 c0 c1 c2
        go_wp2_with fail
        go_roundw
        case rel => exact ⟨k + 1, hlt, by go_num, HB2.out, all_take hall.out Hx.out Hf.out.symm⟩
        case measure => simp [intOf]; omega
      | false =>
        go_wp2_with fail
        refine (fits_q QX.out).mono ?_
        rw [← Hf.out]
        rintro e w2 ⟨rfl, hb2⟩
        have HB2 := Lib.hid (zaa HBX.out hb2)
        clear hb2 g0 g1 g2 c0 c1 c2
        go_wp2_with fail
        go_ret2
        exact ⟨by rw [bndV, all_not Hx.out Hf.out.symm]; rfl, HB2.out⟩
    · obtain rfl : k = n := by omega
      have hlt : ¬ k < k := by omega
      go_wp2_with fail
      go_ret2
      refine ⟨?_, HW.out⟩
      have h := hall.out
      rw [List.take_of_length_le (by rw [← Hn.out]; exact Nat.le_refl _)] at h
      rw [bndV, h]
      rfl
def bndM (v : Value) (m : List (List Rat)) : Ending := .returned (.tuple #[if m.all (fun l => l.all fitsQ) then v else .slice none 0 0, .int .i64 (if m.all (fun l => l.all fitsQ) then 0 else 5)])
set_option maxHeartbeats 2000000 in
theorem boundedRows_l {w : World} {v : Value} {m : List (List Rat)} (h : IsM w (Old w) v (rawM m)) : Calls Tryd.prog 69 #[v] w fun e w' => e = bndM v m ∧ Below w.heap.size w w' := by
  have H := Lib.hid h
  obtain ⟨A, c, rfl, hl⟩ := zca h
  obtain ⟨n, hn⟩ : ∃ n, n = m.length := ⟨_, rfl⟩
  have el : (rawM m).length = n := by simp [rawM, hn]
  rw [el] at hl H ⊢
  have Hn := Lib.hid hn
  clear h el hn
  go_enter Tryd.func69, Tryd.ntmps69
  go_wp2_with fail
  go_loopw [10, 5, 6, 7] (fun i _ _ _ wr => ∃ k : Nat, k ≤ n ∧ i = .int .i64 (k : Int) ∧ Below w.heap.size w wr ∧ Hid ((m.take k).all (fun l => l.all fitsQ) = true)) (fun i _ _ _ _ => n - (intOf i).toNat)
  case atStart => exact ⟨0, Nat.zero_le _, rfl, Below.refl _ _, by simp [Hid]⟩
  case round =>
    obtain ⟨k, hk, rfl, hbw, hall⟩ := hrel
    have HW := Lib.hid hbw
    rcases Nat.lt_or_ge k n with hlt | hge
    · obtain ⟨r, hr⟩ : ∃ r, m[k]? = some r := ⟨_, List.getElem?_eq_getElem (by rw [← Hn.out]; exact hlt)⟩
      have hrr : (rawM m)[k]? = some (rawV r) := by rw [rawM, List.getElem?_map, hr]; rfl
      obtain ⟨b, o, Y1, Y2, rfl, hSb, hely, c0⟩ := zcr H.out hrr
      replace c0 := hbw.cell (p := ⟨b, o + k, none⟩) hSb |>.trans c0
      have VY := Lib.hid (IsV.stb.to hely (zba hbw))
      obtain ⟨n1, hn1⟩ : ∃ z, z = (rawV r).length := ⟨_, rfl⟩
      rw [← hn1] at c0 VY
      have Hr := Lib.hid hr
      obtain ⟨f, hf⟩ : ∃ f, f = r.all fitsQ := ⟨_, rfl⟩
      have Hf := Lib.hid hf
      clear hr hrr hely hSb hbw hf hn1
      cases f with
      | true =>
        go_wp2_with fail
        refine (bounded_l VY.out).mono ?_
        rw [bndV, ← Hf.out]
        rintro e w2 ⟨rfl, hb2⟩
        have HB2 := Lib.hid (zaa HW.out hb2)
        clear hb2 c0
        go_wp2_with fail
        go_roundw
        case rel => exact ⟨k + 1, hlt, by go_num, HB2.out, all_take hall.out Hr.out Hf.out.symm⟩
        case measure => simp [intOf]; omega
      | false =>
        go_wp2_with fail
        refine (bounded_l VY.out).mono ?_
        rw [bndV, ← Hf.out]
        rintro e w2 ⟨rfl, hb2⟩
        have HB2 := Lib.hid (zaa HW.out hb2)
        clear hb2 c0
        go_wp2_with fail
        go_ret2
        exact ⟨by rw [bndM, all_not (p := fun l => l.all fitsQ) Hr.out Hf.out.symm]; rfl, HB2.out⟩
    · obtain rfl : k = n := by omega
      have hlt : ¬ k < k := by omega
      go_wp2_with fail
      go_ret2
      refine ⟨?_, HW.out⟩
      have h := hall.out
      rw [List.take_of_length_le (by rw [← Hn.out]; exact Nat.le_refl _)] at h
      rw [bndM, h]
      rfl
theorem boxes4 (w : World) (c1 c2 c3 c4 : Array Value) (t1 t2 t3 t4 : TypeId) : ∃ w0, (((w.alloc (.cells c1 t1)).alloc (.cells c2 t2)).alloc (.cells c3 t3)).alloc (.cells c4 t4) = w0 ∧ Below w.heap.size w w0 ∧ Row w0 w.heap.size t1 c1.toList ∧ Row w0 (w.heap.size + 1) t2 c2.toList ∧
    Row w0 (w.heap.size + 2) t3 c3.toList ∧ Row w0 (w.heap.size + 3) t4 c4.toList ∧ Hid (w0.heap.size = w.heap.size + 4) := by
  obtain ⟨w1, rfl, h1, h2, h3, h4, h5⟩ := boxes3 w c1 c2 c3 t1 t2 t3
  obtain ⟨w2, rfl, k1, k2, k3⟩ := zcf (((w.alloc (.cells c1 t1)).alloc (.cells c2 t2)).alloc (.cells c3 t3)) c4 t4
  have h5' := h5.out
  rw [h5'] at k2 k3
  exact ⟨_, rfl, zaa h1 k1, h2.next k1, h3.next k1, h4.next k1, k2, k3⟩
set_option maxHeartbeats 1000000 in
theorem dot1_q {w : World} {va vb vc : Value} {qa qb qc : Rat} (ha : IsQ w (Old w) va qa) (hb : IsQ w (Old w) vb qb) (hc : IsQ w (Old w) vc qc) (hB : Bru w) (sa : Sz qa 100000) (sb : Sz qb 100000) (sc : Sz qc 100000) (sp : Sz (qb * qc) 100000) : Calls Tryd.prog 111 #[va, vb, vc] w (RetQ w (qa + qb * qc)) := by
  have HQa := Lib.hid ha
  obtain ⟨nega, Aa, cAa, Ba, cBa, rfl, Hnega, Hna, Hda⟩ := zam ha
  have HQb := Lib.hid hb
  obtain ⟨negb, Ab, cAb, Bb, cBb, rfl, Hnegb, Hnb, Hdb⟩ := zam hb
  have HQc := Lib.hid hc
  obtain ⟨negc, Ac, cAc, Bc, cBc, rfl, Hnegc, Hnc, Hdc⟩ := zam hc
  have HB := Lib.hid hB
  have Hsa := Lib.hid sa
  have Hsb := Lib.hid sb
  have Hsc := Lib.hid sc
  have Hsp := Lib.hid sp
  clear ha hb hc hB sa sb sc sp
  obtain ⟨w0, hw0, hb0, ra, rb, rc, rZ, Hz⟩ := boxes4 w #[.bool nega, .slice Aa (lim qa.num.natAbs).length cAa, .slice Ba (lim qa.den).length cBa] #[.bool negb, .slice Ab (lim qb.num.natAbs).length cAb, .slice Bb (lim qb.den).length cBb] #[.bool negc, .slice Ac (lim qc.num.natAbs).length cAc, .slice Bc (lim qc.den).length cBc] #[.bool false, .slice none 0 0, .slice none 0 0] 50 50 50 50
  have Qa_0 := Lib.hid (IsQ.stb.next HQa.out hb0)
  have Ra_0 := Lib.hid (ra)
  have Qb_0 := Lib.hid (IsQ.stb.next HQb.out hb0)
  have Rb_0 := Lib.hid (rb)
  have Qc_0 := Lib.hid (IsQ.stb.next HQc.out hb0)
  have Rc_0 := Lib.hid (rc)
  have Z_0 := Lib.hid (rZ)
  have bw_0 := Lib.hid (hb0)
  have sz_0 : Hid (w.heap.size + 4 ≤ w0.heap.size) := Lib.hid (Nat.le_of_eq Hz.out.symm)
  clear ra rb rc rZ hb0
  obtain ⟨cRa0_1, cRa1_1, cRa2_1⟩ := zad Ra_0.out
  obtain ⟨cRb0_2, cRb1_2, cRb2_2⟩ := zad Rb_0.out
  obtain ⟨cRc0_3, cRc1_3, cRc2_3⟩ := zad Rc_0.out
  obtain ⟨cZ0_4, cZ1_4, cZ2_4⟩ := zad Z_0.out
  obtain ⟨fZ0_4, fZ1_4, fZ2_4⟩ := zaq Z_0.out
  have B_0 := Lib.hid (Bru.next HB.out bw_0.out)
  go_enter Tryd.func111, Tryd.ntmps111
  go_wp2_with fail
  clear hw0
  have Qa_1 := Lib.hid (IsQ.stb.next Qa_0.out (zab _))
  have Ra_1 := Lib.hid (Row.next Ra_0.out (zab _))
  have Qb_1 := Lib.hid (IsQ.stb.next Qb_0.out (zab _))
  have Rb_1 := Lib.hid (Row.next Rb_0.out (zab _))
  have Qc_1 := Lib.hid (IsQ.stb.next Qc_0.out (zab _))
  have Rc_1 := Lib.hid (Row.next Rc_0.out (zab _))
  have Z_1 := Lib.hid (Row.next Z_0.out (zab _))
  have bw_1 := Lib.hid (zaa bw_0.out (zab _))
  have sz_1 := Lib.hid (zah sz_0.out (zab _))
  have B_1 := Lib.hid (Bru.next B_0.out (zab _))
  clear Qa_0 Ra_0 Qb_0 Rb_0 Qc_0 Rc_0 Z_0 bw_0 sz_0 B_0
  go_region_held3 (fun w' => w'.cell? ⟨w.heap.size, 0, none⟩ = some (.bool nega) ∧ w'.cell? ⟨w.heap.size, 1, none⟩ = some (.slice Aa (lim qa.num.natAbs).length cAa) ∧ w'.cell? ⟨w.heap.size, 2, none⟩ = some (.slice Ba (lim qa.den).length cBa) ∧ w'.cell? ⟨w.heap.size + 1, 0, none⟩ = some (.bool negb) ∧ w'.cell? ⟨w.heap.size + 1, 1, none⟩ = some (.slice Ab (lim qb.num.natAbs).length cAb) ∧ w'.cell? ⟨w.heap.size + 1, 2, none⟩ = some (.slice Bb (lim qb.den).length cBb) ∧ w'.cell? ⟨w.heap.size + 2, 0, none⟩ = some (.bool negc) ∧ w'.cell? ⟨w.heap.size + 2, 1, none⟩ = some (.slice Ac (lim qc.num.natAbs).length cAc) ∧ w'.cell? ⟨w.heap.size + 2, 2, none⟩ = some (.slice Bc (lim qc.den).length cBc))
    (first
      | exact ⟨cRa0_1, cRa1_1, cRa2_1, cRb0_2, cRb1_2, cRb2_2, cRc0_3, cRc1_3, cRc2_3⟩
      | exact ⟨cRa0_5, cRa1_5, cRa2_5, cRb0_6, cRb1_6, cRb2_6, cRc0_7, cRc1_7, cRc2_7⟩
      | exact ⟨cRa0_9, cRa1_9, cRa2_9, cRb0_10, cRb1_10, cRb2_10, cRc0_11, cRc1_11, cRc2_11⟩
      | exact ⟨zar cRa0_9 (by omega), zar cRa1_9 (by omega), zar cRa2_9 (by omega), zar cRb0_10 (by omega), zar cRb1_10 (by omega), zar cRb2_10 (by omega), zar cRc0_11 (by omega), zar cRc1_11 (by omega), zar cRc2_11 (by omega)⟩)
    (first
      | (go_at_call 91; have hc := times_q Qb_1.out Qc_1.out B_1.out Hsb.out Hsc.out rfl; (with_reducible refine hc.mono ?_); clear hc; rintro e w1 ⟨⟨v1, rfl, hv1⟩, hb⟩; have newP := Lib.hid (IsQ.stb.le hv1 sz_1.out); have Qa_2 := Lib.hid (IsQ.stb.next Qa_1.out (hb)); have Ra_2 := Lib.hid (Row.next Ra_1.out (hb)); have Qb_2 := Lib.hid (IsQ.stb.next Qb_1.out (hb)); have Rb_2 := Lib.hid (Row.next Rb_1.out (hb)); have Qc_2 := Lib.hid (IsQ.stb.next Qc_1.out (hb)); have Rc_2 := Lib.hid (Row.next Rc_1.out (hb)); have Z_2 := Lib.hid (Row.next Z_1.out (hb)); have bw_2 := Lib.hid (zaa bw_1.out (hb)); have sz_2 := Lib.hid (zah sz_1.out (hb)); have B_2 := Lib.hid (Bru.next B_1.out (hb)); clear Qa_1 Ra_1 Qb_1 Rb_1 Qc_1 Rc_1 Z_1 bw_1 sz_1 B_1; have P_0 := newP; clear newP; obtain ⟨s1, P1, k1, O1, l1, rfl, _, _, _⟩ := zam hv1; clear cRa0_1 cRa1_1 cRa2_1 cRb0_2 cRb1_2 cRb2_2 cRc0_3 cRc1_3 cRc2_3 cZ0_4 cZ1_4 cZ2_4 fZ0_4 fZ1_4 fZ2_4; obtain ⟨cRa0_5, cRa1_5, cRa2_5⟩ := zad Ra_2.out; obtain ⟨cRb0_6, cRb1_6, cRb2_6⟩ := zad Rb_2.out; obtain ⟨cRc0_7, cRc1_7, cRc2_7⟩ := zad Rc_2.out; obtain ⟨cZ0_8, cZ1_8, cZ2_8⟩ := zad Z_2.out; obtain ⟨fZ0_8, fZ1_8, fZ2_8⟩ := zaq Z_2.out)
      | (go_at_call 89; have hc := plus_q Qa_2.out (IsQ.stb.old P_0.out) B_2.out Hsa.out Hsp.out rfl; (with_reducible refine hc.mono ?_); clear hc; rintro e w2 ⟨⟨v2, rfl, hv2⟩, hb⟩; have newU := Lib.hid (IsQ.stb.le hv2 sz_2.out); have Qa_3 := Lib.hid (IsQ.stb.next Qa_2.out (hb)); have Ra_3 := Lib.hid (Row.next Ra_2.out (hb)); have Qb_3 := Lib.hid (IsQ.stb.next Qb_2.out (hb)); have Rb_3 := Lib.hid (Row.next Rb_2.out (hb)); have Qc_3 := Lib.hid (IsQ.stb.next Qc_2.out (hb)); have Rc_3 := Lib.hid (Row.next Rc_2.out (hb)); have Z_3 := Lib.hid (Row.next Z_2.out (hb)); have bw_3 := Lib.hid (zaa bw_2.out (hb)); have sz_3 := Lib.hid (zah sz_2.out (hb)); have B_3 := Lib.hid (Bru.next B_2.out (hb)); have P_1 := Lib.hid (IsQ.stb.fresh P_0.out (hb)); clear Qa_2 Ra_2 Qb_2 Rb_2 Qc_2 Rc_2 Z_2 bw_2 sz_2 B_2 P_0; have U_0 := newU; clear newU; obtain ⟨s2, P2, k2, O2, l2, rfl, _, _, _⟩ := zam hv2; clear cRa0_5 cRa1_5 cRa2_5 cRb0_6 cRb1_6 cRb2_6 cRc0_7 cRc1_7 cRc2_7 cZ0_8 cZ1_8 cZ2_8 fZ0_8 fZ1_8 fZ2_8; obtain ⟨cRa0_9, cRa1_9, cRa2_9⟩ := zad Ra_3.out; obtain ⟨cRb0_10, cRb1_10, cRb2_10⟩ := zad Rb_3.out; obtain ⟨cRc0_11, cRc1_11, cRc2_11⟩ := zad Rc_3.out; obtain ⟨cZ0_12, cZ1_12, cZ2_12⟩ := zad Z_3.out; obtain ⟨fZ0_12, fZ1_12, fZ2_12⟩ := zaq Z_3.out))
  go_wp2_with fail
  refine zbc Tryd.results111 rfl rfl (Row.put3 Z_3.out _ _ _) (zfm U_0.out bw_3.out (by omega) (by omega))
theorem zfr {w : World} {v : Value} {m : List (List Raw)} (h : IsM w (Old w) v m) : Calls Tryd.prog 67 #[v] w fun e w' => e = .returned (.int .i64 ((m.headD []).length : Int)) ∧ w = w' := by
  have H := Lib.hid h
  obtain ⟨A, c, rfl, hl⟩ := zca h
  clear h
  cases m with
  | nil =>
    go_enter Tryd.func67, Tryd.ntmps67
    go_wp2_with fail
    go_ret
    exact ⟨rfl, rfl⟩
  | cons r t =>
    obtain ⟨b, o, B, d, rfl, hb, hr, hc⟩ := zcr H.out (j := 0) (l := r) rfl
    have hlt : (0 : Int) < ((t.length : Int) + 1) := by omega
    have hne : ¬ ((t.length : Int) + 1 = 0) := by omega
    simp at hc hl
    clear H
    go_enter Tryd.func67, Tryd.ntmps67
    go_wp2_with fail
    go_ret
    exact ⟨rfl, rfl⟩
def bothE (a b : List Raw) : Int := if chkV a ≠ 0 then chkV a else if chkV b ≠ 0 then chkV b else if a.length ≠ b.length then 10 else 0
set_option maxHeartbeats 1000000 in
theorem vboth_l {w : World} {va vb : Value} {a b : List Raw} (ha : IsV w (Old w) va a) (hb : IsV w (Old w) vb b) (hB : Bru w) : Calls Tryd.prog 86 #[va, vb] w fun e w' => e = .returned (.int .i64 (bothE a b)) ∧ Below w.heap.size w w' := by
  obtain ⟨A, cA, rfl, hla⟩ := zcm ha
  obtain ⟨B, cB, rfl, hlb⟩ := zcm hb
  have HA := Lib.hid ha
  have HV := Lib.hid hb
  have HB := Lib.hid hB
  obtain ⟨x, hx⟩ : ∃ x, x = chkV a := ⟨_, rfl⟩
  obtain ⟨y, hy⟩ : ∃ y, y = chkV b := ⟨_, rfl⟩
  have Hx := Lib.hid hx
  have Hy := Lib.hid hy
  clear ha hb hB
  go_enter Tryd.func86, Tryd.ntmps86
  go_wp2_with fail
  refine (vcheck_l HA.out HB.out).mono ?_
  rintro e w1 ⟨rfl, hb1⟩
  rw [← Hx.out]
  have HB1 := Lib.hid hb1
  clear hb1 hx hy
  by_cases h1 : x = 0
  · subst h1
    go_wp2_with fail
    refine (vcheck_l (IsV.stb.to HV.out (zba HB1.out)) (Bru.next HB.out HB1.out)).mono ?_
    rintro e w2 ⟨rfl, hb2⟩
    rw [← Hy.out]
    have HB2 := Lib.hid (zaa HB1.out hb2)
    clear hb2
    by_cases h2 : y = 0
    · subst h2
      by_cases h3 : a.length = b.length
      · have h4 : (a.length : Int) = (b.length : Int) := by rw [h3]
        go_wp2_with fail
        go_ret
        exact ⟨by rw [bothE, ← Hx.out, ← Hy.out, if_neg (by simp), if_neg (by simp), if_neg (by simpa using h3)]; rfl, HB2.out⟩
      · have h4 : ¬ ((a.length : Int) = (b.length : Int)) := by omega
        go_wp2_with fail
        go_ret
        exact ⟨by rw [bothE, ← Hx.out, ← Hy.out, if_neg (by simp), if_neg (by simp), if_pos (by simpa using h3)]; rfl, HB2.out⟩
    · go_wp2_with fail
      go_ret
      exact ⟨by rw [bothE, ← Hx.out, ← Hy.out, if_neg (by simp), if_pos h2]; rfl, HB2.out⟩
  · go_wp2_with fail
    go_ret
    exact ⟨by rw [bothE, ← Hx.out, if_pos h1]; rfl, HB1.out⟩
structure MatW (w : World) (S : Nat → Prop) (r0 : Nat) (rb cp : Nat → Nat) (n m : Nat) (A : Nat → Nat → Int) : Prop where
  hd : ∀ i, i < n → w.cell? ⟨r0, i, none⟩ = some (.slice (some ⟨rb i, 0, none⟩) m (cp i))
  hf : ∀ i, i < n → w.frozen? ⟨r0, i, none⟩ = false
  cap : ∀ i, i < n → m ≤ cp i ∧ cp i ≤ maxLen
  el : ∀ i j, i < n → j < m → ∃ P k Q l, w.cell? ⟨rb i, j * 3, none⟩ = some (.bool (decide (A i j < 0))) ∧ w.cell? ⟨rb i, j * 3 + 1, none⟩ = some (.slice P (lim (A i j).natAbs).length k) ∧ w.cell? ⟨rb i, j * 3 + 2, none⟩ = some (.slice Q (lim 1).length l) ∧
    IsQ w S (.agg #[.bool (decide (A i j < 0)), .slice P (lim (A i j).natAbs).length k, .slice Q (lim 1).length l]) ((A i j : Int) : Rat)
  ef : ∀ i o, i < n → o < m * 3 → w.frozen? ⟨rb i, o, none⟩ = false
  inj : ∀ i k, i < n → k < n → rb i = rb k → i = k
  sep : ∀ i, i < n → rb i ≠ r0 ∧ ¬ S (rb i) ∧ rb i < w.heap.size
  s0 : ¬ S r0 ∧ r0 < w.heap.size
  sS : ∀ b, S b → b < w.heap.size
theorem MatW.keep {w w' : World} {S T : Nat → Prop} {r0 : Nat} {rb cp : Nat → Nat} {n m : Nat} {A : Nat → Nat → Int} (h : MatW w S r0 rb cp n m A) (hsz : w.heap.size ≤ w'.heap.size)
    (h0 : w'.heap[r0]? = w.heap[r0]?) (hr : ∀ i, i < n → w'.heap[rb i]? = w.heap[rb i]?) (hS : ∀ b, S b → w'.heap[b]? = w.heap[b]?)
    (hST : ∀ b, S b → T b) (hT : ∀ b, T b → S b ∨ (w.heap.size ≤ b ∧ b < w'.heap.size)) : MatW w' T r0 rb cp n m A where
  hd i hi := (World.cell?_of_block h0).trans (h.hd i hi)
  hf i hi := (World.frozen?_of_block h0).trans (h.hf i hi)
  cap := h.cap
  el i j hi hj := by
    obtain ⟨P, k, Q, l, h1, h2, h3, h4⟩ := h.el i j hi hj
    exact ⟨P, k, Q, l, (World.cell?_of_block (hr i hi)).trans h1, (World.cell?_of_block (hr i hi)).trans h2, (World.cell?_of_block (hr i hi)).trans h3, IsQ.stb.to h4 fun b hb => ⟨hST b hb, fun o => World.cell?_of_block (hS b hb)⟩⟩
  ef i o hi ho := (World.frozen?_of_block (hr i hi)).trans (h.ef i o hi ho)
  inj := h.inj
  sep i hi := by
    obtain ⟨h1, h2, h3⟩ := h.sep i hi
    exact ⟨h1, fun h => by rcases hT _ h with h | h; exact h2 h; omega, by omega⟩
  s0 := ⟨fun h' => by rcases hT _ h' with h' | h'; exact h.s0.1 h'; have := h.s0.2; omega, by have := h.s0.2; omega⟩
  sS b hb := by
    rcases hT b hb with h' | h'
    · have := h.sS b h'; omega
    · exact h'.2
theorem MatW.next {w w' : World} {S T : Nat → Prop} {r0 : Nat} {rb cp : Nat → Nat} {n m : Nat} {A : Nat → Nat → Int} (h : MatW w S r0 rb cp n m A) (hb : Below w.heap.size w w')
    (hST : ∀ b, S b → T b) (hT : ∀ b, T b → S b ∨ (w.heap.size ≤ b ∧ b < w'.heap.size)) : MatW w' T r0 rb cp n m A :=
  h.keep hb.size (hb.block _ h.s0.2) (fun i hi => hb.block _ (h.sep i hi).2.2) (fun b hb' => hb.block _ (h.sS b hb')) hST hT
theorem zdw (w : World) (p : Addr) (u : Value) : (w.setCell p u).heap.size = w.heap.size := by simp [World.setCell]
abbrev putE (w : World) (b j : Nat) (x y z : Value) : World := ((w.setCell ⟨b, j * 3, none⟩ x).setCell ⟨b, j * 3 + 1, none⟩ y).setCell ⟨b, j * 3 + 2, none⟩ z
theorem zec {w : World} {b j : Nat} {x y z : Value} {c o : Nat} (h : c ≠ b ∨ o < j * 3 ∨ j * 3 + 3 ≤ o) : (putE w b j x y z).cell? ⟨c, o, none⟩ = w.cell? ⟨c, o, none⟩ := by
  unfold putE
  rw [World.cell?_setCell_other _ _ _ _ (fun e => by injection e with h1 h2; omega), World.cell?_setCell_other _ _ _ _ (fun e => by injection e with h1 h2; omega), World.cell?_setCell_other _ _ _ _ (fun e => by injection e with h1 h2; omega)]
theorem putE_cells {w : World} {b j : Nat} {x y z x' y' z' : Value} (h0 : w.cell? ⟨b, j * 3, none⟩ = some x') (h1 : w.cell? ⟨b, j * 3 + 1, none⟩ = some y') (h2 : w.cell? ⟨b, j * 3 + 2, none⟩ = some z') :
    (putE w b j x y z).cell? ⟨b, j * 3, none⟩ = some x ∧ (putE w b j x y z).cell? ⟨b, j * 3 + 1, none⟩ = some y ∧ (putE w b j x y z).cell? ⟨b, j * 3 + 2, none⟩ = some z := by
  unfold putE
  refine ⟨?_, ?_, ?_⟩
  · rw [World.cell?_setCell_other _ _ _ _ (fun e => by injection e with h1 h2; omega), World.cell?_setCell_other _ _ _ _ (fun e => by injection e with h1 h2; omega)]
    exact World.cell?_setCell_same _ _ _ h0
  · rw [World.cell?_setCell_other _ _ _ _ (fun e => by injection e with h1 h2; omega)]
    refine World.cell?_setCell_same _ _ _ (u := y') ?_
    rw [World.cell?_setCell_other _ _ _ _ (fun e => by injection e with h1 h2; omega)]
    exact h1
  · refine World.cell?_setCell_same _ _ _ (u := z') ?_
    rw [World.cell?_setCell_other _ _ _ _ (fun e => by injection e with h1 h2; omega), World.cell?_setCell_other _ _ _ _ (fun e => by injection e with h1 h2; omega)]
    exact h2
theorem putE_frozen {w : World} {b j : Nat} {x y z : Value} (p : Addr) : (putE w b j x y z).frozen? p = w.frozen? p := by unfold putE; simp
theorem zev {w : World} {b j : Nat} {x y z : Value} : (putE w b j x y z).heap.size = w.heap.size := by unfold putE; rw [zdw, zdw, zdw]
def updM (A : Nat → Nat → Int) (i j : Nat) (z : Int) : Nat → Nat → Int := fun a b => if a = i ∧ b = j then z else A a b
theorem MatW.put {w : World} {S : Nat → Prop} {r0 : Nat} {rb cp : Nat → Nat} {n m : Nat} {A : Nat → Nat → Int} (h : MatW w S r0 rb cp n m A) {i j : Nat} (hi : i < n) (hj : j < m) {z : Int} {P Q : Option Addr} {k l : Nat}
    (hq : IsQ w S (.agg #[.bool (decide (z < 0)), .slice P (lim z.natAbs).length k, .slice Q (lim 1).length l]) ((z : Int) : Rat)) :
    MatW (putE w (rb i) j (.bool (decide (z < 0))) (.slice P (lim z.natAbs).length k) (.slice Q (lim 1).length l)) S r0 rb cp n m (updM A i j z) where
  hd a ha := (zec (.inl (Ne.symm (h.sep i hi).1))).trans (h.hd a ha)
  hf a ha := (putE_frozen _).trans (h.hf a ha)
  cap := h.cap
  el a b ha hb := by
    have hS : Same S S w (putE w (rb i) j (.bool (decide (z < 0))) (.slice P (lim z.natAbs).length k) (.slice Q (lim 1).length l)) := fun c hc => ⟨hc, fun o => zec (.inl fun e => (h.sep i hi).2.1 (by rw [← e]; exact hc))⟩
    by_cases hab : a = i ∧ b = j
    · obtain ⟨rfl, rfl⟩ := hab
      obtain ⟨P', k', Q', l', h1, h2, h3, _⟩ := h.el a b ha hb
      obtain ⟨e1, e2, e3⟩ := putE_cells (x := .bool (decide (z < 0))) (y := .slice P (lim z.natAbs).length k) (z := .slice Q (lim 1).length l) h1 h2 h3
      have hz : updM A a b z a b = z := by unfold updM; rw [if_pos ⟨rfl, rfl⟩]
      rw [hz]
      exact ⟨P, k, Q, l, e1, e2, e3, IsQ.stb.to hq hS⟩
    · obtain ⟨P', k', Q', l', h1, h2, h3, h4⟩ := h.el a b ha hb
      have hz : updM A i j z a b = A a b := by unfold updM; rw [if_neg hab]
      have hne : rb a ≠ rb i ∨ b < j ∨ j < b := by
        by_cases e : a = i
        · have : b ≠ j := fun e' => hab ⟨e, e'⟩
          omega
        · exact .inl fun e' => e (h.inj a i ha hi e')
      rw [hz]
      exact ⟨P', k', Q', l', (zec (by omega)).trans h1, (zec (by omega)).trans h2, (zec (by omega)).trans h3, IsQ.stb.to h4 hS⟩
  ef a o ha ho := (putE_frozen _).trans (h.ef a o ha ho)
  inj := h.inj
  sep a ha := ⟨(h.sep a ha).1, (h.sep a ha).2.1, by rw [zev]; exact (h.sep a ha).2.2⟩
  s0 := ⟨h.s0.1, by rw [zev]; exact h.s0.2⟩
  sS b hb := by rw [zev]; exact h.sS b hb
def swF {α : Type} (f : Nat → α) (i k : Nat) : Nat → α := fun a => if a = i then f k else if a = k then f i else f a
theorem swF_i {α : Type} (f : Nat → α) (i k : Nat) : swF f i k i = f k := if_pos rfl
theorem swF_k {α : Type} (f : Nat → α) (i k : Nat) : swF f i k k = f i := by
  unfold swF
  split
  · rename_i h; rw [h]
  · rw [if_pos rfl]
theorem swF_o {α : Type} (f : Nat → α) {i k a : Nat} (h1 : a ≠ i) (h2 : a ≠ k) : swF f i k a = f a := by unfold swF; rw [if_neg h1, if_neg h2]
theorem swF_same {α : Type} (f : Nat → α) (i : Nat) : swF f i i = f := by
  funext a
  unfold swF
  split
  · rename_i h; rw [h]
  · rfl
theorem MatW.swap {w : World} {S : Nat → Prop} {r0 : Nat} {rb cp : Nat → Nat} {n m : Nat} {A : Nat → Nat → Int} (h : MatW w S r0 rb cp n m A) {i k : Nat} (hi : i < n) (hk : k < n) (hik : i ≠ k) :
    MatW ((w.setCell ⟨r0, i, none⟩ (.slice (some ⟨rb k, 0, none⟩) m (cp k))).setCell ⟨r0, k, none⟩ (.slice (some ⟨rb i, 0, none⟩) m (cp i))) S r0 (swF rb i k) (swF cp i k) n m (swF A i k) := by
  have oth : ∀ b o, b ≠ r0 → ((w.setCell ⟨r0, i, none⟩ (.slice (some ⟨rb k, 0, none⟩) m (cp k))).setCell ⟨r0, k, none⟩ (.slice (some ⟨rb i, 0, none⟩) m (cp i))).cell? ⟨b, o, none⟩ = w.cell? ⟨b, o, none⟩ := fun b o hb => by
    rw [World.cell?_setCell_other _ _ _ _ (fun e => by injection e with h1 h2; exact hb h1.symm), World.cell?_setCell_other _ _ _ _ (fun e => by injection e with h1 h2; exact hb h1.symm)]
  have cases3 : ∀ a, a < n → a = i ∨ a = k ∨ (a ≠ i ∧ a ≠ k) := fun a _ => by omega
  refine ⟨fun a ha => ?_, fun a ha => ?_, fun a ha => ?_, fun a b ha hb => ?_, fun a o ha ho => ?_, fun a b ha hb he => ?_, fun a ha => ?_, ⟨h.s0.1, by rw [zdw, zdw]; exact h.s0.2⟩, fun b hb => by rw [zdw, zdw]; exact h.sS b hb⟩
  · rcases cases3 a ha with rfl | rfl | ⟨h1, h2⟩
    · rw [swF_i, swF_i, World.cell?_setCell_other _ _ _ _ (fun e => by injection e with h1 h2; omega)]
      exact World.cell?_setCell_same _ _ _ (h.hd _ hi)
    · rw [swF_k, swF_k]
      refine World.cell?_setCell_same _ _ _ (u := .slice (some ⟨rb a, 0, none⟩) m (cp a)) ?_
      rw [World.cell?_setCell_other _ _ _ _ (fun e => by injection e with h1 h2; omega)]
      exact h.hd _ hk
    · rw [swF_o _ h1 h2, swF_o _ h1 h2, World.cell?_setCell_other _ _ _ _ (fun e => by injection e with h3 h4; omega), World.cell?_setCell_other _ _ _ _ (fun e => by injection e with h3 h4; omega)]
      exact h.hd a ha
  · simp only [World.frozen?_setCell]; exact h.hf a ha
  · rcases cases3 a ha with rfl | rfl | ⟨h1, h2⟩
    · rw [swF_i]; exact h.cap _ hk
    · rw [swF_k]; exact h.cap _ hi
    · rw [swF_o _ h1 h2]; exact h.cap _ ha
  · have hS : Same S S w ((w.setCell ⟨r0, i, none⟩ (.slice (some ⟨rb k, 0, none⟩) m (cp k))).setCell ⟨r0, k, none⟩ (.slice (some ⟨rb i, 0, none⟩) m (cp i))) := fun c hc => ⟨hc, fun o => oth c o fun e => h.s0.1 (by rw [← e]; exact hc)⟩
    rcases cases3 a ha with rfl | rfl | ⟨h1, h2⟩
    · rw [swF_i, swF_i]
      obtain ⟨P, k', Q, l, e1, e2, e3, e4⟩ := h.el _ b hk hb
      exact ⟨P, k', Q, l, (oth _ _ (h.sep _ hk).1).trans e1, (oth _ _ (h.sep _ hk).1).trans e2, (oth _ _ (h.sep _ hk).1).trans e3, IsQ.stb.to e4 hS⟩
    · rw [swF_k, swF_k]
      obtain ⟨P, k', Q, l, e1, e2, e3, e4⟩ := h.el _ b hi hb
      exact ⟨P, k', Q, l, (oth _ _ (h.sep _ hi).1).trans e1, (oth _ _ (h.sep _ hi).1).trans e2, (oth _ _ (h.sep _ hi).1).trans e3, IsQ.stb.to e4 hS⟩
    · rw [swF_o _ h1 h2, swF_o _ h1 h2]
      obtain ⟨P, k', Q, l, e1, e2, e3, e4⟩ := h.el _ b ha hb
      exact ⟨P, k', Q, l, (oth _ _ (h.sep _ ha).1).trans e1, (oth _ _ (h.sep _ ha).1).trans e2, (oth _ _ (h.sep _ ha).1).trans e3, IsQ.stb.to e4 hS⟩
  · simp only [World.frozen?_setCell]
    rcases cases3 a ha with rfl | rfl | ⟨h1, h2⟩
    · rw [swF_i]; exact h.ef _ _ hk ho
    · rw [swF_k]; exact h.ef _ _ hi ho
    · rw [swF_o _ h1 h2]; exact h.ef _ _ ha ho
  · rcases cases3 a ha with rfl | rfl | ⟨h1, h2⟩ <;> rcases cases3 b hb with rfl | rfl | ⟨h3, h4⟩
    · rfl
    · rw [swF_i, swF_k] at he; exact absurd (h.inj _ _ hk hi he) (by omega)
    · rw [swF_i, swF_o _ h3 h4] at he; exact absurd (h.inj _ _ hk hb he) (by omega)
    · rw [swF_k, swF_i] at he; exact absurd (h.inj _ _ hi hk he) (by omega)
    · rfl
    · rw [swF_k, swF_o _ h3 h4] at he; exact absurd (h.inj _ _ hi hb he) (by omega)
    · rw [swF_o _ h1 h2, swF_i] at he; exact absurd (h.inj _ _ ha hk he) (by omega)
    · rw [swF_o _ h1 h2, swF_k] at he; exact absurd (h.inj _ _ ha hi he) (by omega)
    · rw [swF_o _ h1 h2, swF_o _ h3 h4] at he; exact h.inj _ _ ha hb he
  · rw [zdw, zdw]
    rcases cases3 a ha with rfl | rfl | ⟨h1, h2⟩
    · rw [swF_i]; exact h.sep _ hk
    · rw [swF_k]; exact h.sep _ hi
    · rw [swF_o _ h1 h2]; exact h.sep _ ha
theorem zat {w : World} {b o c j : Nat} {v x y z : Value} (h : w.cell? ⟨b, o, none⟩ = some v) (hb : b ≠ c) : (putE w c j x y z).cell? ⟨b, o, none⟩ = some v := (zec (.inl hb)).trans h
theorem zes {w w' : World} {c j : Nat} {x y z : Value} (h : w.grownBy w' (some c)) : w.grownBy (putE w' c j x y z) (some c) := zap (zap (zap h (zcl _ _ _ _)) (zcl _ _ _ _)) (zcl _ _ _ _)
def SN (S : Nat → Prop) (lo : Nat) (w : World) : Nat → Prop := fun b => S b ∨ (lo ≤ b ∧ b < w.heap.size)
theorem MatW.grow {w w' : World} {S : Nat → Prop} {lo r0 : Nat} {rb cp : Nat → Nat} {n m : Nat} {A : Nat → Nat → Int} (h : MatW w (SN S lo w) r0 rb cp n m A) (hlo : lo ≤ w.heap.size) (hb : Below w.heap.size w w') : MatW w' (SN S lo w') r0 rb cp n m A :=
  h.next hb (fun b hb' => by rcases hb' with h' | h'; exact .inl h'; exact .inr ⟨h'.1, Nat.lt_of_lt_of_le h'.2 hb.size⟩) fun b hb' => by
    rcases hb' with h' | h'
    · exact .inl (.inl h')
    · rcases Nat.lt_or_ge b w.heap.size with h1 | h1
      · exact .inl (.inr ⟨h'.1, h1⟩)
      · exact .inr ⟨h1, h'.2⟩
theorem MatW.start {w : World} {S : Nat → Prop} {r0 : Nat} {rb cp : Nat → Nat} {n m : Nat} {A : Nat → Nat → Int} (h : MatW w S r0 rb cp n m A) : MatW w (SN S w.heap.size w) r0 rb cp n m A :=
  h.next (Below.refl _ _) (fun b hb => .inl hb) fun b hb => by
    rcases hb with h' | h'
    · exact .inl h'
    · omega
theorem MatW.same {w : World} {S : Nat → Prop} {r0 : Nat} {rb cp : Nat → Nat} {n m : Nat} {A B : Nat → Nat → Int} (h : MatW w S r0 rb cp n m A) (hAB : ∀ i j, i < n → j < m → A i j = B i j) : MatW w S r0 rb cp n m B :=
  ⟨h.hd, h.hf, h.cap, fun i j hi hj => by rw [← hAB i j hi hj]; exact h.el i j hi hj, h.ef, h.inj, h.sep, h.s0, h.sS⟩
def zdv (A : Nat → Nat → Int) (i j : Nat) : Nat → Nat → Int := fun a b => if a = i ∧ b < j then -A a b else A a b
theorem negTo_zero (A : Nat → Nat → Int) (i : Nat) : zdv A i 0 = A := by funext a b; unfold zdv; rw [if_neg (by omega)]
theorem negTo_at (A : Nat → Nat → Int) (i j : Nat) : zdv A i j i j = A i j := by unfold zdv; rw [if_neg (by omega)]
theorem negTo_succ (A : Nat → Nat → Int) (i j : Nat) (a b : Nat) : updM (zdv A i j) i j (-A i j) a b = zdv A i (j + 1) a b := by
  unfold updM zdv
  by_cases h : a = i ∧ b = j
  · obtain ⟨rfl, rfl⟩ := h
    rw [if_pos ⟨rfl, rfl⟩, if_pos ⟨rfl, by omega⟩]
  · rw [if_neg h]
    by_cases h2 : a = i ∧ b < j
    · rw [if_pos h2, if_pos ⟨h2.1, by omega⟩]
    · rw [if_neg h2, if_neg (by omega)]
def zdg (A : Nat → Nat → Int) (m i c : Nat) : Nat → Nat → Int := if 0 < A i c then A else zdv A i m
theorem isQ_int {w : World} {S : Nat → Prop} {v : Value} {z : Int} (h : IsQ w S v ((z : Int) : Rat)) : ∃ P k Q l, v = .agg #[.bool (decide (z < 0)), .slice P (lim z.natAbs).length k, .slice Q (lim 1).length l] := by
  obtain ⟨A, c, B, d, e, _, _⟩ := h
  rw [raw_int] at e
  exact ⟨A, c, B, d, e⟩
theorem int_lt0 (z : Int) : ((z : Rat) < 0) ↔ z < 0 := by
  have := num_lt (z : Rat)
  rw [Rat.num_intCast, decide_eq_decide] at this
  exact this.symm
theorem sgn_int (z : Int) : (decide (0 < sgnQ (z : Rat))) = decide (0 < z) := by
  unfold sgnQ
  rw [decide_eq_decide]
  rcases Int.lt_trichotomy z 0 with h | h | h
  · have h1 : ¬ ((z : Rat) = 0) := by simpa using (show z ≠ 0 by omega)
    have h2 : (z : Rat) < 0 := (int_lt0 z).2 h
    rw [if_neg h1, if_pos h2]
    omega
  · subst h
    rw [if_pos (by simp)]
  · have h1 : ¬ ((z : Rat) = 0) := by simpa using (show z ≠ 0 by omega)
    have h2 : ¬ ((z : Rat) < 0) := fun e => by have := (int_lt0 z).1 e; omega
    rw [if_neg h1, if_neg h2]
    omega
def ints (m : Nat) (f : Nat → Int) : List Rat := (List.range m).map fun j => ((f j : Int) : Rat)
theorem ints_len (m : Nat) (f : Nat → Int) : (ints m f).length = m := by unfold ints; simp
theorem ints_get {m : Nat} {f : Nat → Int} {j : Nat} (h : j < m) : (ints m f)[j]? = some ((f j : Int) : Rat) := by unfold ints; rw [List.getElem?_map, List.getElem?_range h]; rfl
theorem ints_snoc (m : Nat) (f : Nat → Int) : ints (m + 1) f = ints m f ++ [((f m : Int) : Rat)] := by unfold ints; rw [List.range_succ, List.map_append]; rfl
structure LineW (w : World) (S : Nat → Prop) (b c m : Nat) (f : Nat → Int) : Prop where
  blk : ∃ cur, w.heap[b]? = some (.cells cur 50 (0, 0))
  cap : m ≤ c ∧ c ≤ maxLen
  el : ∀ j, j < m → ∃ P k Q l, w.cell? ⟨b, j * 3, none⟩ = some (.bool (decide (f j < 0))) ∧ w.cell? ⟨b, j * 3 + 1, none⟩ = some (.slice P (lim (f j).natAbs).length k) ∧ w.cell? ⟨b, j * 3 + 2, none⟩ = some (.slice Q (lim 1).length l) ∧
    IsQ w S (.agg #[.bool (decide (f j < 0)), .slice P (lim (f j).natAbs).length k, .slice Q (lim 1).length l]) ((f j : Int) : Rat)
theorem OwnS.shape {α : Type} {n : Nat} {t : TypeId} {R : World → (Nat → Prop) → Value → α → Prop} {w : World} {base : Nat} {S : Nat → Prop} {v : Value} {l : List α} (h : OwnS n t R w base S v l) (hl : l ≠ []) :
    ∃ b c cur es, v = .slice (some ⟨b, 0, none⟩) l.length c ∧ base ≤ b ∧ w.heap[b]? = some (.cells cur t (0, 0)) ∧ l.length ≤ c ∧ c ≤ maxLen ∧ cur.toList.take (l.length * n) = cellsOf es ∧ Wid n es ∧ All2 (R w S) es l ∧ ¬ S b ∧ (∀ x, S x → x < w.heap.size) := by
  obtain ⟨es, h1, h2, h3, h4⟩ := h
  rcases h1.2 with ⟨_, h5⟩ | ⟨g, cap, cur, h5, h6, h7, h8, h9, h10, h11⟩
  · exact absurd (List.eq_nil_of_length_eq_zero h5) hl
  · exact ⟨g, cap, cur, es, h5, h6, h7, h8, h9, h11, h2, h3, fun hb => (h4 g hb).2 (by rw [h5]; rfl), fun x hx => (h4 x hx).1⟩
theorem cur_cell {w : World} {b : Nat} {cur : Array Value} {t : TypeId} {n : Nat} {xs : List Value} {o : Nat} {v : Value} (h : w.heap[b]? = some (.cells cur t (0, 0))) (ht : cur.toList.take n = xs) (hv : xs[o]? = some v) : w.cell? ⟨b, o, none⟩ = some v := by
  rw [cell_of_row w b o _ t (0, 0) h]
  rw [← ht, List.getElem?_take] at hv
  split at hv
  · simpa using hv
  · cases hv
theorem OwnS.line {w : World} {base : Nat} {S : Nat → Prop} {v : Value} {m : Nat} {f : Nat → Int} (h : OwnS 3 50 IsR w base S v (rawV (ints m f))) (hm : 1 ≤ m) :
    ∃ b c, v = .slice (some ⟨b, 0, none⟩) m c ∧ base ≤ b ∧ b < w.heap.size ∧ ¬ S b ∧ LineW w S b c m f := by
  have hl : (rawV (ints m f)).length = m := by simp [rawV, ints_len]
  obtain ⟨b, c, cur, es, rfl, h1, h2, h3, h4, h5, h6, h7, h8, _⟩ := h.shape (fun e => by rw [e] at hl; simp at hl; omega)
  rw [hl] at h3 h5
  refine ⟨b, c, by rw [hl], h1, (Array.getElem?_eq_some_iff.1 h2).1, h8, ⟨cur, h2⟩, ⟨h3, h4⟩, fun j hj => ?_⟩
  have hr : (rawV (ints m f))[j]? = some (raw ((f j : Int) : Rat)) := by unfold rawV; rw [List.getElem?_map, ints_get hj]; rfl
  obtain ⟨e, he, hR⟩ := h7.get hr
  obtain ⟨P, k, Q, l, rfl⟩ := isQ_int (show IsQ w S e ((f j : Int) : Rat) from hR)
  exact ⟨P, k, Q, l, cur_cell h2 h5 (zfq h6 (i := 0) he rfl), cur_cell h2 h5 (zfq h6 (i := 1) he rfl), cur_cell h2 h5 (zfq h6 (i := 2) he rfl), hR⟩
theorem LineW.keep {w w' : World} {S T : Nat → Prop} {b c m : Nat} {f : Nat → Int} (h : LineW w S b c m f) (hb : w'.heap[b]? = w.heap[b]?) (hS : ∀ x, S x → T x ∧ w'.heap[x]? = w.heap[x]?) : LineW w' T b c m f where
  blk := by rw [hb]; exact h.blk
  cap := h.cap
  el j hj := by
    obtain ⟨P, k, Q, l, h1, h2, h3, h4⟩ := h.el j hj
    exact ⟨P, k, Q, l, (World.cell?_of_block hb).trans h1, (World.cell?_of_block hb).trans h2, (World.cell?_of_block hb).trans h3, IsQ.stb.to h4 fun x hx => ⟨(hS x hx).1, fun o => World.cell?_of_block (hS x hx).2⟩⟩
def IsVal (w : World) (S : Nat → Prop) (v x : Value) : Prop := v = x
theorem IsVal.stb : Stb IsVal := fun _ _ _ _ _ _ h _ => h
def heads (k m : Nat) (rb cp : Nat → Nat) : List Value := (List.range k).map fun i => .slice (some ⟨rb i, 0, none⟩) m (cp i)
theorem heads_len (k m : Nat) (rb cp : Nat → Nat) : (heads k m rb cp).length = k := by unfold heads; simp
theorem heads_snoc (k m : Nat) (rb cp : Nat → Nat) : heads (k + 1) m rb cp = heads k m rb cp ++ [.slice (some ⟨rb k, 0, none⟩) m (cp k)] := by unfold heads; rw [List.range_succ, List.map_append]; rfl
theorem heads_congr {k m : Nat} {rb cp rb' cp' : Nat → Nat} (h : ∀ i, i < k → rb i = rb' i ∧ cp i = cp' i) : heads k m rb cp = heads k m rb' cp' := by
  unfold heads
  refine List.map_congr_left fun i hi => ?_
  rw [(h i (List.mem_range.1 hi)).1, (h i (List.mem_range.1 hi)).2]
theorem matW_of {w : World} {base : Nat} {S : Nat → Prop} {v : Value} {n m : Nat} {rb cp : Nat → Nat} {A : Nat → Nat → Int} (hn : 1 ≤ n) (h : OwnS 1 29 IsVal w base (fun _ => False) v (heads n m rb cp))
    (hL : ∀ i, i < n → LineW w S (rb i) (cp i) m (A i)) (hinj : ∀ i k, i < n → k < n → rb i = rb k → i = k) (hsep : ∀ i, i < n → v.ownBlock ≠ some (rb i) ∧ ¬ S (rb i) ∧ rb i < w.heap.size) (hS : ∀ b, S b → b < w.heap.size ∧ v.ownBlock ≠ some b) :
    ∃ r0 c0, v = .slice (some ⟨r0, 0, none⟩) n c0 ∧ base ≤ r0 ∧ c0 ≤ maxLen ∧ n ≤ c0 ∧ MatW w S r0 rb cp n m A := by
  have hl := heads_len n m rb cp
  obtain ⟨b, c, cur, es, rfl, h1, h2, h3, h4, h5, h6, h7, _, _⟩ := h.shape (fun e => by rw [e] at hl; simp at hl; omega)
  rw [hl] at h3 h5
  have hb : b < w.heap.size := (Array.getElem?_eq_some_iff.1 h2).1
  refine ⟨b, c, by rw [hl], h1, h4, h3, ⟨fun i hi => ?_, fun i hi => ?_, fun i hi => (hL i hi).cap, fun i j hi hj => (hL i hi).el j hj, fun i o hi ho => ?_, hinj, fun i hi => ⟨fun e => (hsep i hi).1 (by rw [e]; rfl), (hsep i hi).2⟩, ⟨fun e => (hS b e).2 rfl, hb⟩, fun x hx => (hS x hx).1⟩⟩
  · have hr : (heads n m rb cp)[i]? = some (.slice (some ⟨rb i, 0, none⟩) m (cp i)) := by unfold heads; rw [List.getElem?_map, List.getElem?_range hi]; rfl
    obtain ⟨e, he, hR⟩ := h7.get hr
    have hR : e = _ := hR
    subst hR
    have := cur_cell h2 h5 (zfq h6 (i := 0) he rfl)
    rwa [Nat.mul_one, Nat.add_zero] at this
  · simp [World.frozen?, h2]
  · obtain ⟨cur', hc⟩ := (hL i hi).blk
    simp [World.frozen?, hc]
def PhiR (G : Nat) (vr : Value) (hs : List Value) (bl m cl n0 base : Nat) (i : Nat) (v : Value) (w : World) (X : Nat → Option Value) : Prop :=
  match i with
  | 0 => v = .pointer (some ⟨G, 0, none⟩)
  | 1 => v = .pointer (some ⟨G, 0, none⟩)
  | 2 => v = .pointer (some ⟨G, 0, none⟩)
  | 3 => v = .pointer (some ⟨G, 0, none⟩)
  | 4 => v = vr
  | 5 => v = .slice (some ⟨bl, 0, none⟩) m cl
  | 6 => NewRow w n0 29 [.slice (some ⟨bl, 0, none⟩) m cl] v
  | 7 => (OwnS 1 29 IsVal w base (fun _ => False) v (hs ++ [.slice (some ⟨bl, 0, none⟩) m cl]) ∧ (v.ownBlock = vr.ownBlock ∨ ∃ b, v.ownBlock = some b ∧ n0 ≤ b))
  | 8 => v = .pointer (some ⟨G, 0, none⟩)
  | 9 => v = .pointer (some ⟨G, 0, none⟩)
  | _ => True
theorem own_neR {v va : Value} {n0 b : Nat} (h : v.ownBlock = va.ownBlock ∨ ∃ b, v.ownBlock = some b ∧ n0 ≤ b) (hb : b < n0) (hn : va.ownBlock ≠ some b) : v.ownBlock ≠ some b := by
  rcases h with h | ⟨c, h, hc⟩
  · rw [h]; exact hn
  · rw [h]
    intro e
    cases e
    omega
def blkR (vr : Value) : Nat → Option Nat := fun k => match k with | 7 => vr.ownBlock | _ => none
theorem phiR_st {G : Nat} {vr : Value} {hs : List Value} {bl m cl n0 base : Nat} (hb : ∀ b, vr.ownBlock = some b → b < n0) :
    ∀ i k v w w' X u, i ≠ k → X k = none → PhiR G vr hs bl m cl n0 base i v w X → w.grownBy w' (blkR vr k) → PhiR G vr hs bl m cl n0 base i v w' (updX X k u) := fun i k v w w' X u hik hX h hE => by
  have hbk : ∀ b, blkR vr k = some b → k = 7 ∧ vr.ownBlock = some b := fun b e => by
    unfold blkR at e
    split at e
    · exact ⟨rfl, e⟩
    · cases e
  match i, hik, h with
  | 0, _, h => exact h
  | 1, _, h => exact h
  | 2, _, h => exact h
  | 3, _, h => exact h
  | 4, _, h => exact h
  | 5, _, h => exact h
  | 6, _, h => exact NewRow.grown h hE fun b e => hb b (hbk b e).2
  | 7, hik, h => exact ⟨OwnS.grown IsVal.stb h.1 hE fun b e => absurd (hbk b e).1 (Ne.symm hik), h.2⟩
  | 8, _, h => exact h
  | 9, _, h => exact h
  | _ + 10, _, _ => exact trivial
def PreR (base : Nat) (vr : Value) (hs : List Value) (i : Nat) (w : World) : Prop := i = 7 → OwnS 1 29 IsVal w base (fun _ => False) vr hs
def JR (GV G : Nat) (xs : List Value) (r1 : Option Nat) (wn w : World) : Prop := Row w GV 105 [.pointer (some ⟨G, 0, none⟩)] ∧ Row w G 110 xs ∧ Kept r1 none none wn w
theorem JR.step {GV G : Nat} {xs : List Value} {r1 r : Option Nat} {wn w w' : World} (h : JR GV G xs r1 wn w) (hE : w.grownBy w' r) (hr : r = none ∨ r = r1) (hg : ∀ b, r = some b → GV ≠ b ∧ G ≠ b) : JR GV G xs r1 wn w' :=
  ⟨h.1.grownN hE fun b e => (hg b e).1, h.2.1.grownN hE fun b e => (hg b e).2, h.2.2.step hE (by rcases hr with h | h; exact .inl h; exact .inr (.inl h))⟩
theorem MatW.cells {w w' : World} {S : Nat → Prop} {r0 : Nat} {rb cp : Nat → Nat} {n m : Nat} {A : Nat → Nat → Int} (h : MatW w S r0 rb cp n m A) (hc : ∀ b o, w'.cell? ⟨b, o, none⟩ = w.cell? ⟨b, o, none⟩) (hf : ∀ p, w'.frozen? p = w.frozen? p) (hs : w'.heap.size = w.heap.size) : MatW w' S r0 rb cp n m A where
  hd i hi := (hc _ _).trans (h.hd i hi)
  hf i hi := (hf _).trans (h.hf i hi)
  cap := h.cap
  el i j hi hj := by
    obtain ⟨P, k, Q, l, h1, h2, h3, h4⟩ := h.el i j hi hj
    exact ⟨P, k, Q, l, (hc _ _).trans h1, (hc _ _).trans h2, (hc _ _).trans h3, IsQ.stb.to h4 fun b hb => ⟨hb, fun o => hc _ _⟩⟩
  ef i o hi ho := (hf _).trans (h.ef i o hi ho)
  inj := h.inj
  sep i hi := by rw [hs]; exact h.sep i hi
  s0 := by rw [hs]; exact h.s0
  sS b hb := by rw [hs]; exact h.sS b hb
theorem setCell_id {w : World} {b o : Nat} {v : Value} (h : w.cell? ⟨b, o, none⟩ = some v) (c p : Nat) : (w.setCell ⟨b, o, none⟩ v).cell? ⟨c, p, none⟩ = w.cell? ⟨c, p, none⟩ := by
  by_cases e : (⟨b, o, none⟩ : Addr) = ⟨c, p, none⟩
  · rw [← e, h]
    exact World.cell?_setCell_same _ _ _ h
  · exact World.cell?_setCell_other _ _ _ _ e
set_option maxRecDepth 100000 in
set_option maxHeartbeats 4000000 in
theorem swap_s {w : World} {S : Nat → Prop} {g r0 c0 : Nat} {rb cp : Nat → Nat} {n m : Nat} {A : Nat → Nat → Int} {y z : Value} {i k : Nat} (hM : MatW w S r0 rb cp n m A) (hg : Row w g 110 [.slice (some ⟨r0, 0, none⟩) n c0, y, z])
    (hn : n ≤ 100) (hi : i < n) (hk : k < n) (v : Int) :
    Calls Tryd.prog 103 #[.pointer (some ⟨g, 0, none⟩), .int .i64 (i : Int), .int .i64 (k : Int), .int .i64 v] w fun e w' => e = .returned (.tuple #[]) ∧ MatW w' S r0 (swF rb i k) (swF cp i k) n m (swF A i k) ∧ Only r0 w w' := by
  have HM := Lib.hid hM
  have g0 := hg.cell 0
  simp at g0
  have hi0 : (0 : Int) ≤ (i : Int) := by omega
  have hi1 : (i : Int) < (n : Int) := by omega
  have hk0 : (0 : Int) ≤ (k : Int) := by omega
  have hk1 : (k : Int) < (n : Int) := by omega
  have ci := hM.hd i hi
  have ck := hM.hd k hk
  have fi := hM.hf i hi
  have fk := hM.hf k hk
  by_cases hik : i = k
  · subst hik
    obtain ⟨Vi, hVi⟩ : ∃ v, v = rb i := ⟨_, rfl⟩
    obtain ⟨Ci, hCi⟩ : ∃ v, v = cp i := ⟨_, rfl⟩
    rw [← hVi, ← hCi] at ci
    have CI := Lib.hid ci
    have dk : (w.setCell ⟨r0, i, none⟩ (.slice (some ⟨Vi, 0, none⟩) m Ci)).cell? ⟨r0, i, none⟩ = some (.slice (some ⟨Vi, 0, none⟩) m Ci) := World.cell?_setCell_same _ _ _ ci
    have DK := Lib.hid dk
    clear hM hg hVi hCi hk0 hk1 ck fk
    go_enter Tryd.func103, Tryd.ntmps103
    go_wp2_with fail
    go_region
    go_wp2_with fail
    refine bodyPost_end (results_none rfl _ _ _) rfl ?_
    rw [swF_same, swF_same, swF_same]
    refine ⟨rfl, ?_, ((Only.refl r0 w).setCell i _).setCell i _ |>.drewN 1⟩
    exact HM.out.cells (fun b o => (setCell_id DK.out b o).trans (setCell_id CI.out b o)) (fun p => by show ((w.setCell _ _).setCell _ _).frozen? p = _; simp) (by show ((w.setCell _ _).setCell _ _).heap.size = _; rw [zdw, zdw])
  · have HIK := Lib.hid hik
    obtain ⟨Vi, hVi⟩ : ∃ v, v = rb i := ⟨_, rfl⟩
    obtain ⟨Vk, hVk⟩ : ∃ v, v = rb k := ⟨_, rfl⟩
    obtain ⟨Ci, hCi⟩ : ∃ v, v = cp i := ⟨_, rfl⟩
    obtain ⟨Ck, hCk⟩ : ∃ v, v = cp k := ⟨_, rfl⟩
    rw [← hVi, ← hCi] at ci
    rw [← hVk, ← hCk] at ck
    have H1 := Lib.hid (And.intro hVi (And.intro hVk (And.intro hCi hCk)))
    have dk : (w.setCell ⟨r0, i, none⟩ (.slice (some ⟨Vk, 0, none⟩) m Ck)).cell? ⟨r0, k, none⟩ = some (.slice (some ⟨Vk, 0, none⟩) m Ck) := by
      rw [World.cell?_setCell_other _ _ _ _ (fun e => by injection e with h1 h2; omega)]
      exact ck
    clear hM hg hVi hVk hCi hCk hik
    go_enter Tryd.func103, Tryd.ntmps103
    go_wp2_with fail
    go_region
    go_wp2_with fail
    refine bodyPost_end (results_none rfl _ _ _) rfl ?_
    refine ⟨rfl, ?_, ((Only.refl r0 w).setCell i _).setCell k _ |>.drewN 1⟩
    have h := HM.out.swap hi hk HIK.out
    rw [← H1.out.1, ← H1.out.2.1, ← H1.out.2.2.1, ← H1.out.2.2.2] at h
    exact h.cells (fun b o => rfl) (fun p => rfl) rfl
set_option maxRecDepth 100000 in
set_option maxHeartbeats 4000000 in
theorem flip_s {w : World} {S : Nat → Prop} {g r0 c0 : Nat} {rb cp : Nat → Nat} {n m : Nat} {A : Nat → Nat → Int} {y z : Value} {i c : Nat} (hM : MatW w S r0 rb cp n m A) (hg : Row w g 110 [.slice (some ⟨r0, 0, none⟩) n c0, y, z])
    (hgi : g ≠ rb i) (hn : n ≤ 100) (hm : m ≤ 100) (hi : i < n) (hc : c < m) (hs : ∀ b, b < m → Sz ((A i b : Int) : Rat) 100000) (v : Int) :
    Calls Tryd.prog 104 #[.pointer (some ⟨g, 0, none⟩), .int .i64 (i : Int), .int .i64 v, .int .i64 (c : Int)] w fun e w' => e = .returned (.tuple #[]) ∧ MatW w' (SN S w.heap.size w') r0 rb cp n m (zdg A m i c) ∧ w.grownBy w' (some (rb i)) := by
  have HM := Lib.hid hM
  have HG := Lib.hid hg
  have Hs := Lib.hid hs
  have Hgi := Lib.hid hgi
  have Hr0 := Lib.hid (hM.sep i hi).1
  have g0 := hg.cell 0
  simp at g0
  have hi0 : (0 : Int) ≤ (i : Int) := by omega
  have hi1 : (i : Int) < (n : Int) := by omega
  have hc0 : (0 : Int) ≤ (c : Int) := by omega
  have hc1 : (c : Int) < (m : Int) := by omega
  have ci := hM.hd i hi
  have cr := zbr
  have hcap := (hM.cap i hi)
  obtain ⟨P, k, Q, l, e0, e1, e2, eq⟩ := hM.el i c hi hc
  have QC := Lib.hid (IsQ.stb.to eq (zay (T := Old w) hM.sS))
  obtain ⟨V, hV⟩ : ∃ x, x = rb i := ⟨_, rfl⟩
  obtain ⟨C, hC⟩ : ∃ x, x = cp i := ⟨_, rfl⟩
  obtain ⟨x0, hx0⟩ : ∃ x, x = decide (A i c < 0) := ⟨_, rfl⟩
  obtain ⟨x1, hx1⟩ : ∃ x, x = (lim (A i c).natAbs).length := ⟨_, rfl⟩
  obtain ⟨x2, hx2⟩ : ∃ x, x = (lim 1).length := ⟨_, rfl⟩
  rw [← hV] at ci e0 e1 e2 Hgi Hr0 ⊢
  rw [← hC] at ci hcap
  rw [← hx0] at e0 QC
  rw [← hx1] at e1 QC
  rw [← hx2] at e2 QC
  have HV := Lib.hid hV
  have HC := Lib.hid hC
  have hVs : V < w.heap.size := by rw [hV]; exact (hM.sep i hi).2.2
  have HVs := Lib.hid hVs
  have Hx2 := Lib.hid hx2
  obtain ⟨t, ht⟩ : ∃ t : Bool, t = decide (0 < A i c) := ⟨_, rfl⟩
  obtain ⟨s, hsg⟩ : ∃ s, s = sgnQ ((A i c : Int) : Rat) := ⟨_, rfl⟩
  have Hsg := Lib.hid hsg
  have ht2 : decide (0 < s) = t := by rw [hsg, ht]; exact sgn_int _
  have Ht := Lib.hid ht
  have hcap1 := hcap.1
  have hcap2 : C ≤ 9223372036854775807 := by have := hcap.2; unfold maxLen at this; omega
  have Hbs : Hid (-1 ≤ s ∧ s ≤ 1) := by rw [Hid, hsg]; rcases sgnQ_val ((A i c : Int) : Rat) with h | h | h <;> omega
  clear hM hg eq hs hgi hV hC hx0 hx1 hx2 hVs ht hsg hcap
  go_enter Tryd.func104, Tryd.ntmps104
  go_wp2_with fail
  refine (sign_q QC.out).mono ?_
  rw [← Hsg.out]
  rintro e w1 ⟨rfl, hb1⟩
  have B1 := Lib.hid hb1
  have k0 := zac hb1 g0
  have k1 := zac hb1 ci
  clear hb1 e0 e1 e2 g0 ci
  cases t with
  | true =>
    go_wp2_with fail
    refine bodyPost_ret (results_none rfl _ _ _) rfl ?_
    have hA : zdg A m i c = A := by unfold zdg; rw [if_pos (of_decide_eq_true Ht.out.symm)]
    rw [hA]
    exact ⟨rfl, HM.out.start.grow (Nat.le_refl _) B1.out, zbe B1.out⟩
  | false =>
    have hA : Hid (zdg A m i c = zdv A i m) := by rw [Hid, zdg, if_neg (of_decide_eq_false Ht.out.symm)]
    go_wp2_with fail
    clear k0 k1
    go_loopw [30, 8, 9] (fun ii _ _ wr => ∃ j : Nat, j ≤ m ∧ ii = .int .i64 (j : Int) ∧ w.grownBy wr (some V) ∧ Hid (MatW wr (SN S w.heap.size wr) r0 rb cp n m (zdv A i j))) (fun ii _ _ _ => m - (intOf ii).toNat)
    case atStart => exact ⟨0, Nat.zero_le _, rfl, zbe B1.out, by rw [Hid, negTo_zero]; exact HM.out.start.grow (Nat.le_refl _) B1.out⟩
    case round =>
      obtain ⟨j, hj, rfl, hgr, hmj⟩ := hrel
      have GR := Lib.hid hgr
      have MJ := Lib.hid hmj.out
      have RG := Lib.hid (HG.out.grownN hgr fun b e => by cases e; exact Hgi.out)
      have g0 := RG.out.cell 0
      simp at g0
      have ci := MJ.out.hd i hi
      rw [← HV.out, ← HC.out] at ci
      clear hgr hmj
      rcases Nat.lt_or_ge j m with hlt | hge
      · obtain ⟨P1, k1, Q1, l1, e0, e1, e2, eq⟩ := MJ.out.el i j hi hlt
        rw [negTo_at] at e0 e1 eq
        rw [← HV.out] at e0 e1 e2
        have QC := Lib.hid (IsQ.stb.to eq (zay (T := Old wr) MJ.out.sS))
        obtain ⟨y0, hy0⟩ : ∃ x, x = decide (A i j < 0) := ⟨_, rfl⟩
        obtain ⟨y1, hy1⟩ : ∃ x, x = (lim (A i j).natAbs).length := ⟨_, rfl⟩
        rw [← hy0] at e0 QC
        rw [← hy1] at e1 QC
        rw [← Hx2.out] at e2 QC
        have hj0 : (0 : Int) ≤ (j : Int) := by omega
        have hj1 : (j : Int) < (m : Int) := by omega
        have hVr : V < wr.heap.size := Nat.lt_of_lt_of_le HVs.out GR.out.size
        have f0 : wr.frozen? ⟨V, j * 3, none⟩ = false := by rw [HV.out]; exact MJ.out.ef i _ hi (by omega)
        have f1 : wr.frozen? ⟨V, j * 3 + 1, none⟩ = false := by rw [HV.out]; exact MJ.out.ef i _ hi (by omega)
        have f2 : wr.frozen? ⟨V, j * 3 + 2, none⟩ = false := by rw [HV.out]; exact MJ.out.ef i _ hi (by omega)
        obtain ⟨wx, hwx, hbx, rx, hzx⟩ := zcf wr #[.bool y0, .slice P1 y1 k1, .slice Q1 x2 l1] 50
        obtain ⟨b0, b1, b2⟩ := zad rx
        have CC := Lib.hid (And.intro (zac hbx g0) (And.intro (zac hbx ci) (And.intro b0 (And.intro b1 b2))))
        have EE := Lib.hid (And.intro (zac hbx e0) (And.intro (zac hbx e1) (zac hbx e2)))
        have FF := Lib.hid (And.intro (zbu hbx e0 f0) (And.intro (zbu hbx e1 f1) (zbu hbx e2 f2)))
        have QX := Lib.hid (IsQ.stb.next QC.out hbx)
        have BX := Lib.hid hbx
        have Hlt := Lib.hid hlt
        obtain ⟨z, hz⟩ : ∃ x, x = -A i j := ⟨_, rfl⟩
        have HZ := Lib.hid hz
        have hne1 : Hid (wr.heap.size ≠ V) := by rw [Hid]; omega
        clear eq hy0 hy1 rx hzx hbx b0 b1 b2 f0 f1 f2 hVr hz hlt
        go_wp2_with fail
        clear hwx g0 ci e0 e1 e2
        have HS : Hid (∀ W : World, Below wx.heap.size wx W → W.cell? ⟨g, 0, none⟩ = some (.slice (some ⟨r0, 0, none⟩) n c0) ∧ W.cell? ⟨r0, i, none⟩ = some (.slice (some ⟨V, 0, none⟩) m C) ∧ W.cell? ⟨wr.heap.size, 0, none⟩ = some (.bool y0) ∧ W.cell? ⟨wr.heap.size, 1, none⟩ = some (.slice P1 y1 k1) ∧ W.cell? ⟨wr.heap.size, 2, none⟩ = some (.slice Q1 x2 l1)) := fun W hW => ⟨zac hW CC.out.1, zac hW CC.out.2.1, zac hW CC.out.2.2.1, zac hW CC.out.2.2.2.1, zac hW CC.out.2.2.2.2⟩
        have D1 : Hid (∀ W : World, Below wx.heap.size wx W → Calls Tryd.prog 73 #[.agg #[.bool y0, .slice P1 y1 k1, .slice Q1 x2 l1]] W (RetQ W (((z : Int)) : Rat))) := fun W hW => negative_q (IsQ.stb.next QX.out hW) (Hs.out j Hlt.out) (by rw [HZ.out, Rat.intCast_neg])
        go_region_held3 (fun w' => w'.cell? ⟨g, 0, none⟩ = some (.slice (some ⟨r0, 0, none⟩) n c0) ∧ w'.cell? ⟨r0, i, none⟩ = some (.slice (some ⟨V, 0, none⟩) m C) ∧ w'.cell? ⟨wr.heap.size, 0, none⟩ = some (.bool y0) ∧ w'.cell? ⟨wr.heap.size, 1, none⟩ = some (.slice P1 y1 k1) ∧ w'.cell? ⟨wr.heap.size, 2, none⟩ = some (.slice Q1 x2 l1))
          (first | exact HS.out _ (by (repeat (first | exact Below.refl _ _ | assumption | refine zae ?_ _ | refine zaf ?_ | refine zag ?_ ?_ _ _ _ | refine zai ?_ (by omega) | refine zaa ?_ (by assumption))); (first | done | fail)) | exact ⟨zat (HS.out _ (by (repeat (first | exact Below.refl _ _ | assumption | refine zae ?_ _ | refine zaf ?_ | refine zag ?_ ?_ _ _ _ | refine zai ?_ (by omega) | refine zaa ?_ (by assumption))); (first | done | fail))).1 Hgi.out, zat (HS.out _ (by (repeat (first | exact Below.refl _ _ | assumption | refine zae ?_ _ | refine zaf ?_ | refine zag ?_ ?_ _ _ _ | refine zai ?_ (by omega) | refine zaa ?_ (by assumption))); (first | done | fail))).2.1 (Ne.symm Hr0.out), zat (HS.out _ (by (repeat (first | exact Below.refl _ _ | assumption | refine zae ?_ _ | refine zaf ?_ | refine zag ?_ ?_ _ _ _ | refine zai ?_ (by omega) | refine zaa ?_ (by assumption))); (first | done | fail))).2.2.1 hne1.out, zat (HS.out _ (by (repeat (first | exact Below.refl _ _ | assumption | refine zae ?_ _ | refine zaf ?_ | refine zag ?_ ?_ _ _ _ | refine zai ?_ (by omega) | refine zaa ?_ (by assumption))); (first | done | fail))).2.2.2.1 hne1.out, zat (HS.out _ (by (repeat (first | exact Below.refl _ _ | assumption | refine zae ?_ _ | refine zaf ?_ | refine zag ?_ ?_ _ _ _ | refine zai ?_ (by omega) | refine zaa ?_ (by assumption))); (first | done | fail))).2.2.2.2 hne1.out⟩)
          (first
            | (go_at_call 73; (with_reducible refine Calls.mono (D1.out _ (by (repeat (first | exact Below.refl _ _ | assumption | refine zae ?_ _ | refine zaf ?_ | refine zag ?_ ?_ _ _ _ | refine zai ?_ (by omega) | refine zaa ?_ (by assumption))); (first | done | fail))) ?_); rintro e w2 ⟨⟨v2, rfl, hv2⟩, hb2⟩; have B2 : Hid (Below wx.heap.size wx w2) := (by (repeat (first | exact Below.refl _ _ | assumption | refine zae ?_ _ | refine zaf ?_ | refine zag ?_ ?_ _ _ _ | refine zai ?_ (by omega) | refine zaa ?_ (by assumption))); (first | done | fail)); obtain ⟨P2, k2, O2, l2, rfl⟩ := isQ_int hv2; have u0 := zac B2.out EE.out.1; have u1 := zac B2.out EE.out.2.1; have u2 := zac B2.out EE.out.2.2; have v0 := zbu B2.out EE.out.1 FF.out.1; have v1 := zbu B2.out EE.out.2.1 FF.out.2.1; have v2 := zbu B2.out EE.out.2.2 FF.out.2.2))
        have MX := Lib.hid ((MJ.out.grow GR.out.size BX.out).grow (Nat.le_trans GR.out.size BX.out.size) B2.out)
        have hq2 : IsQ w2 (SN S w.heap.size w2) (.agg #[.bool (decide (z < 0)), .slice P2 (lim z.natAbs).length k2, .slice O2 (lim 1).length l2]) ((z : Int) : Rat) := IsQ.stb.to hv2 (zay fun b hb => .inr ⟨by have h1 := GR.out.size; have h2 := BX.out.size; have h3 := hb.1; simp at h3; omega, hb.2⟩)
        have HQ2 := Lib.hid hq2
        have hlt := Hlt.out
        have G2 := Lib.hid (zap (zap GR.out (zbe BX.out)) (zbe B2.out))
        clear HS D1 hv2 hb2 u0 u1 u2 v0 v1 v2 hq2
        go_wp2_with fail
        go_roundw
        case rel =>
          have hM2 := MX.out.put hi hlt HQ2.out
          rw [← HV.out] at hM2
          refine ⟨j + 1, hlt, by go_num, zes G2.out, ?_⟩
          have e : SN S w.heap.size (putE w2 V j (.bool (decide (z < 0))) (.slice P2 (lim z.natAbs).length k2) (.slice O2 (lim 1).length l2)) = SN S w.heap.size w2 := by unfold SN; rw [zev]
          show MatW _ (SN S w.heap.size (putE w2 V j _ _ _)) _ _ _ _ _ _
          rw [e]
          exact hM2.same fun a b _ _ => by rw [HZ.out]; exact negTo_succ A i j a b
        case measure => simp [intOf]; omega
      · obtain rfl : j = m := by omega
        go_wp2_with fail
        refine bodyPost_end (results_none rfl _ _ _) rfl ?_
        rw [hA.out]
        exact ⟨rfl, MJ.out, GR.out⟩
end Go.Proofs.YtjkgdggkgljdoaaDoor
