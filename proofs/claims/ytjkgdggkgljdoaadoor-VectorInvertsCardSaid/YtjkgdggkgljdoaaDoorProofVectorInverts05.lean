/-
  Contracts of the reference's functions on rational numbers: Lowest, Minus, Plus, Times, Order, Zero.
-/
import Derived.Test.YtjkgdggkgljdoaaDoorVinv06
import Derived.Test.YtjkgdggkgljdoaaDoorProofVectorInverts03
import Derived.Test.YtjkgdggkgljdoaaDoorProofVectorInverts04
import Derived.Test.YtjkgdggkgljdoaaDoorProofVectorInverts02
import Derived.Test.YtjkgdggkgljdoaaDoorVinv09
import Derived.Test.YtjkgdggkgljdoaaDoorVinv16
import Derived.Test.YtjkgdggkgljdoaaDoorVinv12
import Derived.Test.YtjkgdggkgljdoaaDoorVinv07
import Derived.Test.YtjkgdggkgljdoaaDoorVinv18
namespace Go.Proofs.YtjkgdggkgljdoaaDoor
open Go.RowKit
set_option linter.unusedVariables false
theorem lit_one (w : World) : NumS (w.alloc (.cells #[.int .u32 1] 94)) (New w.heap.size (w.alloc (.cells #[.int .u32 1] 94))) (.slice (some ⟨w.heap.size, 0, none⟩) 1 1) 1 := by
  have h := isL_new .u32 w 94 [1] (by unfold maxLen; decide)
  unfold NumS
  rw [zde]
  exact IsL.isK h fun b h1 h2 => ⟨h1, by rw [World.size_alloc]; exact h2⟩
set_option maxHeartbeats 1000000 in
theorem lowest_q {w : World} {va vb : Value} {n d : Nat} {neg : Bool} {q : Rat} (ha : IsN w 0 w.heap.size va n) (hb : IsN w 0 w.heap.size vb d) (hd0 : d ≠ 0) (hn : (lim n).length ≤ 2000000) (hd : (lim d).length ≤ 2000000) (hq : q = mkRat (sg neg n) d) : Calls Tryd.prog 80 #[.bool neg, va, vb] w (RetQ w q) := by
  have Ha := Lib.hid ha
  have Hb := Lib.hid hb
  have Hn := Lib.hid hn
  have Hd := Lib.hid hd
  obtain ⟨A, cA, rfl, _, _, _⟩ := ha
  obtain ⟨B, cB, rfl, _, _, _⟩ := hb
  clear hn hd
  obtain ⟨w0, hw0, hb0, rZ, Hz⟩ := zcf w #[.bool false, .slice none 0 0, .slice none 0 0] 50
  have Z_0 := Lib.hid (rZ)
  have bw_0 := Lib.hid (hb0)
  have sz_0 : Hid (w.heap.size + 1 ≤ w0.heap.size) := Lib.hid (Nat.le_of_eq Hz.out.symm)
  clear rZ hb0
  obtain ⟨cZ0_1, cZ1_1, cZ2_1⟩ := zad Z_0.out
  obtain ⟨fZ0_1, fZ1_1, fZ2_1⟩ := zaq Z_0.out
  have A_0 := Lib.hid (IsN.next Ha.out bw_0.out)
  have D_0 := Lib.hid (IsN.next Hb.out bw_0.out)
  by_cases h0 : n = 0
  · have e0 := len_zero h0
    have Hq : Hid (q = 0) := by rw [Hid, hq, h0, sg_zero, Rat.zero_mkRat]
    clear h0 hq
    obtain ⟨d0, d1, d2⟩ := zad (Row.alloc Z_0.out (.cells #[.int .u32 1] 94))
    obtain ⟨d3, d4, d5⟩ := zaq (Row.alloc Z_0.out (.cells #[.int .u32 1] 94))
    go_enter Tryd.func80, Tryd.ntmps80
    go_wp2_with fail
    rw [Hq.out]
    refine zbc Tryd.results80 rfl rfl (Row.put3 (Row.alloc Z_0.out _) _ _ _) (retQ (n := 0) (d := 1) (by rw [raw_zero, zbd, zde]) (below_stepA bw_0.out _) (Nat.le_refl _) (numS_zero (S := New (w.heap.size + 1) _)) (lit_one w0) (by omega) (by have := Hz.out; omega))
  · have e0 := zeb h0
    obtain ⟨G, hG⟩ : ∃ G, G = Nat.gcd n d := ⟨_, rfl⟩
    have Hr : Hid (raw q = ⟨neg, lim (n / G), lim (d / G)⟩) := by rw [Hid, hq, hG]; exact raw_ratio h0 hd0
    have HGp : Hid (0 < G) := by rw [Hid, hG]; exact Nat.gcd_pos_of_pos_right _ (by omega)
    have HG := Lib.hid hG
    clear h0 hG hq
    go_enter Tryd.func80, Tryd.ntmps80
    go_wp2_with fail
    clear hw0
    refine ((show Calls Tryd.prog 113 #[.slice A (lim n).length cA, .slice B (lim d).length cB] w0 (fun e w' => (∃ v, e = .returned v ∧ IsN w' 0 w'.heap.size v G) ∧ Below w0.heap.size w0 w') from by rw [HG.out]; exact rcommon_n A_0.out D_0.out (Nat.le_trans Hn.out (by omega)) (Nat.le_trans Hd.out (by omega)))).mono ?_
    rintro e w1 ⟨⟨v1, rfl, hv⟩, hb⟩
    have newG := Lib.hid (hv)
    have Z_1 := Lib.hid (Row.next Z_0.out (hb))
    have bw_1 := Lib.hid (zaa bw_0.out (hb))
    have sz_1 := Lib.hid (zah sz_0.out (hb))
    have A_1 := Lib.hid (IsN.next A_0.out (hb))
    have D_1 := Lib.hid (IsN.next D_0.out (hb))
    clear Z_0 bw_0 sz_0 A_0 D_0
    have G_0 := newG
    clear newG
    obtain ⟨P1, k1, rfl, _, _, _⟩ := id hv
    clear cZ0_1 cZ1_1 cZ2_1 fZ0_1 fZ1_1 fZ2_1
    obtain ⟨cZ0_2, cZ1_2, cZ2_2⟩ := zad Z_1.out
    obtain ⟨fZ0_2, fZ1_2, fZ2_2⟩ := zaq Z_1.out
    go_wp2_with fail
    refine (rover_f A_1.out G_0.out HGp.out (Nat.le_trans Hn.out (by omega))).mono ?_
    rintro e w2 ⟨⟨v2, v2r, rfl, hv2, _⟩, hb⟩
    have newN := Lib.hid (zaz hv2 sz_1.out)
    have Z_2 := Lib.hid (Row.next Z_1.out (hb))
    have bw_2 := Lib.hid (zaa bw_1.out (hb))
    have sz_2 := Lib.hid (zah sz_1.out (hb))
    have A_2 := Lib.hid (IsN.next A_1.out (hb))
    have D_2 := Lib.hid (IsN.next D_1.out (hb))
    have G_1 := Lib.hid (IsN.next G_0.out (hb))
    clear Z_1 bw_1 sz_1 A_1 D_1 G_0
    have N_0 := newN
    clear newN
    obtain ⟨P2, k2, rfl, _, _, _⟩ := id hv2
    clear cZ0_2 cZ1_2 cZ2_2 fZ0_2 fZ1_2 fZ2_2
    obtain ⟨cZ0_3, cZ1_3, cZ2_3⟩ := zad Z_2.out
    obtain ⟨fZ0_3, fZ1_3, fZ2_3⟩ := zaq Z_2.out
    go_wp2_with fail
    refine (rover_f D_2.out G_1.out HGp.out (Nat.le_trans Hd.out (by omega))).mono ?_
    rintro e w3 ⟨⟨v3, v3r, rfl, hv3, _⟩, hb⟩
    have newE := Lib.hid (zaz hv3 sz_2.out)
    have Z_3 := Lib.hid (Row.next Z_2.out (hb))
    have bw_3 := Lib.hid (zaa bw_2.out (hb))
    have sz_3 := Lib.hid (zah sz_2.out (hb))
    have A_3 := Lib.hid (IsN.next A_2.out (hb))
    have D_3 := Lib.hid (IsN.next D_2.out (hb))
    have G_2 := Lib.hid (IsN.next G_1.out (hb))
    have N_1 := Lib.hid (IsK.stb.fresh N_0.out (hb))
    clear Z_2 bw_2 sz_2 A_2 D_2 G_1 N_0
    have E_0 := newE
    clear newE
    obtain ⟨P3, k3, rfl, _, _, _⟩ := id hv3
    clear cZ0_3 cZ1_3 cZ2_3 fZ0_3 fZ1_3 fZ2_3
    obtain ⟨cZ0_4, cZ1_4, cZ2_4⟩ := zad Z_3.out
    obtain ⟨fZ0_4, fZ1_4, fZ2_4⟩ := zaq Z_3.out
    go_wp2_with fail
    refine zbc Tryd.results80 rfl rfl (Row.put3 Z_3.out _ _ _) (retQ Hr.out bw_3.out (by omega) N_1.out E_0.out (by omega) (by omega))
set_option maxRecDepth 100000 in
set_option maxHeartbeats 2000000 in
theorem raddq {w : World} {va vb : Value} {qa qb qc : Rat} (ha : IsQ w (Old w) va qa) (hb : IsQ w (Old w) vb qb) (hsa : Sz qa 100000) (hsb : Sz qb 100000) (hc : qc = qa + qb) : Calls Tryd.prog 31 #[va, vb] w (RetQ w qc) := by
  have HQa := Lib.hid ha
  obtain ⟨nega, Aa, cAa, Ba, cBa, rfl, Hnega, Hna, Hda⟩ := zam ha
  have HQb := Lib.hid hb
  obtain ⟨negb, Ab, cAb, Bb, cBb, rfl, Hnegb, Hnb, Hdb⟩ := zam hb
  obtain ⟨x, hx⟩ : ∃ x, x = qa.num.natAbs * qb.den := ⟨_, rfl⟩
  obtain ⟨y, hy⟩ : ∃ y, y = qb.num.natAbs * qa.den := ⟨_, rfl⟩
  obtain ⟨d, hd⟩ : ∃ d, d = qa.den * qb.den := ⟨_, rfl⟩
  have Hov : Hid (∀ (neg : Bool) (n : Nat), sg neg n = sg nega x + sg negb y → qc = mkRat (sg neg n) d) := fun neg n h => by rw [hc, hd]; exact (plus_over Hnega.out Hnegb.out (by rw [h, hx, hy])).symm
  have Hx := Lib.hid hx
  have Hy := Lib.hid hy
  have Hdd := Lib.hid hd
  have Hd0 : Hid (d ≠ 0) := by rw [Hid, hd]; exact Nat.mul_ne_zero qa.den_nz qb.den_nz
  have Lx : Hid ((lim x).length ≤ 200000) := by rw [Hid, hx]; exact sz_mul hsa.1 hsb.2
  have Ly : Hid ((lim y).length ≤ 200000) := by rw [Hid, hy]; exact sz_mul hsb.1 hsa.2
  have Ld : Hid ((lim d).length ≤ 2000000) := by rw [Hid, hd]; exact Nat.le_trans (sz_mul hsa.2 hsb.2) (by omega)
  have Hsa := Lib.hid hsa
  have Hsb := Lib.hid hsb
  clear ha hb hc hsa hsb hx hy hd
  obtain ⟨w0, hw0, hb0, ra, rb, rZ, Hz⟩ := boxes3 w #[.bool nega, .slice Aa (lim qa.num.natAbs).length cAa, .slice Ba (lim qa.den).length cBa] #[.bool negb, .slice Ab (lim qb.num.natAbs).length cAb, .slice Bb (lim qb.den).length cBb] #[.bool false, .slice none 0 0, .slice none 0 0] 50 50 50
  have Qa_0 := Lib.hid (IsQ.stb.next HQa.out hb0)
  have Ra_0 := Lib.hid (ra)
  have Qb_0 := Lib.hid (IsQ.stb.next HQb.out hb0)
  have Rb_0 := Lib.hid (rb)
  have Z_0 := Lib.hid (rZ)
  have bw_0 := Lib.hid (hb0)
  have sz_0 : Hid (w.heap.size + 3 ≤ w0.heap.size) := Lib.hid (Nat.le_of_eq Hz.out.symm)
  clear ra rb rZ hb0
  obtain ⟨cRa0_1, cRa1_1, cRa2_1⟩ := zad Ra_0.out
  obtain ⟨cRb0_2, cRb1_2, cRb2_2⟩ := zad Rb_0.out
  obtain ⟨cZ0_3, cZ1_3, cZ2_3⟩ := zad Z_0.out
  obtain ⟨fZ0_3, fZ1_3, fZ2_3⟩ := zaq Z_0.out
  go_enter Tryd.func31, Tryd.ntmps31
  go_wp2_with fail
  clear hw0
  have Qa_1 := Lib.hid (IsQ.stb.next Qa_0.out (zab _))
  have Ra_1 := Lib.hid (Row.next Ra_0.out (zab _))
  have Qb_1 := Lib.hid (IsQ.stb.next Qb_0.out (zab _))
  have Rb_1 := Lib.hid (Row.next Rb_0.out (zab _))
  have Z_1 := Lib.hid (Row.next Z_0.out (zab _))
  have bw_1 := Lib.hid (zaa bw_0.out (zab _))
  have sz_1 := Lib.hid (zah sz_0.out (zab _))
  clear Qa_0 Ra_0 Qb_0 Rb_0 Z_0 bw_0 sz_0
  go_region_held3 (fun w' => w'.cell? ⟨w.heap.size, 1, none⟩ = some (.slice Aa (lim qa.num.natAbs).length cAa) ∧ w'.cell? ⟨w.heap.size, 2, none⟩ = some (.slice Ba (lim qa.den).length cBa) ∧ w'.cell? ⟨w.heap.size + 1, 1, none⟩ = some (.slice Ab (lim qb.num.natAbs).length cAb) ∧ w'.cell? ⟨w.heap.size + 1, 2, none⟩ = some (.slice Bb (lim qb.den).length cBb))
    (first
      | exact ⟨cRa1_1, cRa2_1, cRb1_2, cRb2_2⟩
      | exact ⟨cRa1_4, cRa2_4, cRb1_5, cRb2_5⟩
      | exact ⟨cRa1_7, cRa2_7, cRb1_8, cRb2_8⟩
      | exact ⟨cRa1_10, cRa2_10, cRb1_11, cRb2_11⟩)
    (first
      | (go_at_call 79; have hc := (show Calls Tryd.prog 79 #[.slice Aa (lim qa.num.natAbs).length cAa, .slice Bb (lim qb.den).length cBb] (World.drew w0) (fun e w' => (∃ v, e = .returned v ∧ IsN w' (World.heap (World.drew w0)).size w'.heap.size v x) ∧ Below (World.heap (World.drew w0)).size (World.drew w0) w') from by rw [Hx.out]; exact rtimes_n (zal (zdm Qa_1.out)) (zal (zcv Qb_1.out)) (Nat.le_refl _) (Nat.le_refl _) (Nat.le_trans Hsa.out.1 (by omega)) (Nat.le_trans Hsb.out.2 (by omega))); (with_reducible refine hc.mono ?_); clear hc; rintro e w1 ⟨⟨v1, rfl, hv⟩, hb⟩; have newX := Lib.hid (zaz hv sz_1.out); have Qa_2 := Lib.hid (IsQ.stb.next Qa_1.out (hb)); have Ra_2 := Lib.hid (Row.next Ra_1.out (hb)); have Qb_2 := Lib.hid (IsQ.stb.next Qb_1.out (hb)); have Rb_2 := Lib.hid (Row.next Rb_1.out (hb)); have Z_2 := Lib.hid (Row.next Z_1.out (hb)); have bw_2 := Lib.hid (zaa bw_1.out (hb)); have sz_2 := Lib.hid (zah sz_1.out (hb)); clear Qa_1 Ra_1 Qb_1 Rb_1 Z_1 bw_1 sz_1; have X_0 := newX; clear newX; obtain ⟨P1, k1, rfl, _, _, _⟩ := id hv; clear cRa0_1 cRa1_1 cRa2_1 cRb0_2 cRb1_2 cRb2_2 cZ0_3 cZ1_3 cZ2_3 fZ0_3 fZ1_3 fZ2_3; obtain ⟨cRa0_4, cRa1_4, cRa2_4⟩ := zad Ra_2.out; obtain ⟨cRb0_5, cRb1_5, cRb2_5⟩ := zad Rb_2.out; obtain ⟨cZ0_6, cZ1_6, cZ2_6⟩ := zad Z_2.out; obtain ⟨fZ0_6, fZ1_6, fZ2_6⟩ := zaq Z_2.out)
      | (go_at_call 79; have hc := (show Calls Tryd.prog 79 #[.slice Ab (lim qb.num.natAbs).length cAb, .slice Ba (lim qa.den).length cBa] w1 (fun e w' => (∃ v, e = .returned v ∧ IsN w' (World.heap w1).size w'.heap.size v y) ∧ Below (World.heap w1).size w1 w') from by rw [Hy.out]; exact rtimes_n (zal (zdm Qb_2.out)) (zal (zcv Qa_2.out)) (Nat.le_refl _) (Nat.le_refl _) (Nat.le_trans Hsb.out.1 (by omega)) (Nat.le_trans Hsa.out.2 (by omega))); (with_reducible refine hc.mono ?_); clear hc; rintro e w2 ⟨⟨v2, rfl, hv2⟩, hb⟩; have newY := Lib.hid (zaz hv2 sz_2.out); have Qa_3 := Lib.hid (IsQ.stb.next Qa_2.out (hb)); have Ra_3 := Lib.hid (Row.next Ra_2.out (hb)); have Qb_3 := Lib.hid (IsQ.stb.next Qb_2.out (hb)); have Rb_3 := Lib.hid (Row.next Rb_2.out (hb)); have Z_3 := Lib.hid (Row.next Z_2.out (hb)); have bw_3 := Lib.hid (zaa bw_2.out (hb)); have sz_3 := Lib.hid (zah sz_2.out (hb)); have X_1 := Lib.hid (IsK.stb.fresh X_0.out (hb)); clear Qa_2 Ra_2 Qb_2 Rb_2 Z_2 bw_2 sz_2 X_0; have Y_0 := newY; clear newY; obtain ⟨P2, k2, rfl, _, _, _⟩ := id hv2; clear cRa0_4 cRa1_4 cRa2_4 cRb0_5 cRb1_5 cRb2_5 cZ0_6 cZ1_6 cZ2_6 fZ0_6 fZ1_6 fZ2_6; obtain ⟨cRa0_7, cRa1_7, cRa2_7⟩ := zad Ra_3.out; obtain ⟨cRb0_8, cRb1_8, cRb2_8⟩ := zad Rb_3.out; obtain ⟨cZ0_9, cZ1_9, cZ2_9⟩ := zad Z_3.out; obtain ⟨fZ0_9, fZ1_9, fZ2_9⟩ := zaq Z_3.out)
      | (go_at_call 79; have hc := (show Calls Tryd.prog 79 #[.slice Ba (lim qa.den).length cBa, .slice Bb (lim qb.den).length cBb] w2 (fun e w' => (∃ v, e = .returned v ∧ IsN w' (World.heap w2).size w'.heap.size v d) ∧ Below (World.heap w2).size w2 w') from by rw [Hdd.out]; exact rtimes_n (zal (zcv Qa_3.out)) (zal (zcv Qb_3.out)) (Nat.le_refl _) (Nat.le_refl _) (Nat.le_trans Hsa.out.2 (by omega)) (Nat.le_trans Hsb.out.2 (by omega))); (with_reducible refine hc.mono ?_); clear hc; rintro e w3 ⟨⟨v3, rfl, hv3⟩, hb⟩; have newD := Lib.hid (zaz hv3 sz_3.out); have Qa_4 := Lib.hid (IsQ.stb.next Qa_3.out (hb)); have Ra_4 := Lib.hid (Row.next Ra_3.out (hb)); have Qb_4 := Lib.hid (IsQ.stb.next Qb_3.out (hb)); have Rb_4 := Lib.hid (Row.next Rb_3.out (hb)); have Z_4 := Lib.hid (Row.next Z_3.out (hb)); have bw_4 := Lib.hid (zaa bw_3.out (hb)); have sz_4 := Lib.hid (zah sz_3.out (hb)); have X_2 := Lib.hid (IsK.stb.fresh X_1.out (hb)); have Y_1 := Lib.hid (IsK.stb.fresh Y_0.out (hb)); clear Qa_3 Ra_3 Qb_3 Rb_3 Z_3 bw_3 sz_3 X_1 Y_0; have D_0 := newD; clear newD; obtain ⟨P3, k3, rfl, _, _, _⟩ := id hv3; clear cRa0_7 cRa1_7 cRa2_7 cRb0_8 cRb1_8 cRb2_8 cZ0_9 cZ1_9 cZ2_9 fZ0_9 fZ1_9 fZ2_9; obtain ⟨cRa0_10, cRa1_10, cRa2_10⟩ := zad Ra_4.out; obtain ⟨cRb0_11, cRb1_11, cRb2_11⟩ := zad Rb_4.out; obtain ⟨cZ0_12, cZ1_12, cZ2_12⟩ := zad Z_4.out; obtain ⟨fZ0_12, fZ1_12, fZ2_12⟩ := zaq Z_4.out))
  rcases (by cases nega <;> cases negb <;> simp : (nega == negb) = true ∨ (nega == negb) = false) with hs | hs
  · have Hs : Hid (negb = nega) := by unfold Hid; cases nega <;> cases negb <;> simp at hs ⊢
    obtain ⟨n, hn⟩ : ∃ n, n = x + y := ⟨_, rfl⟩
    have Hq : Hid (qc = mkRat (sg nega n) d) := Hov.out _ _ (by rw [Hs.out, hn, sg_add])
    have Hnl : Hid ((lim n).length ≤ 2000000) := by rw [Hid, hn]; exact Nat.le_trans (sz_add Lx.out Ly.out) (by omega)
    have Hn := Lib.hid hn
    clear hn
    go_wp2_with fail
    have Qa_5 := Lib.hid (IsQ.stb.next Qa_4.out (zab _))
    have Ra_5 := Lib.hid (Row.next Ra_4.out (zab _))
    have Qb_5 := Lib.hid (IsQ.stb.next Qb_4.out (zab _))
    have Rb_5 := Lib.hid (Row.next Rb_4.out (zab _))
    have Z_5 := Lib.hid (Row.next Z_4.out (zab _))
    have bw_5 := Lib.hid (zaa bw_4.out (zab _))
    have sz_5 := Lib.hid (zah sz_4.out (zab _))
    have X_3 := Lib.hid (IsK.stb.fresh X_2.out (zab _))
    have Y_2 := Lib.hid (IsK.stb.fresh Y_1.out (zab _))
    have D_1 := Lib.hid (IsK.stb.fresh D_0.out (zab _))
    clear Qa_4 Ra_4 Qb_4 Rb_4 Z_4 bw_4 sz_4 X_2 Y_1 D_0
    go_region_held3 (fun w' => w'.cell? ⟨w.heap.size, 0, none⟩ = some (.bool nega))
      (first
        | exact cRa0_10
        | exact cRa0_13
        | exact cRa0_16
        | exact zar cRa0_16 (by omega))
      (first
        | (go_at_call 81; have hc := (show Calls Tryd.prog 81 #[.slice P1 (lim x).length k1, .slice P2 (lim y).length k2] (World.drew w3) (fun e w' => (∃ v, e = .returned v ∧ IsN w' (World.heap (World.drew w3)).size w'.heap.size v n) ∧ Below (World.heap (World.drew w3)).size (World.drew w3) w') from by rw [Hn.out]; exact rplus_n (zal (IsK.stb.old X_3.out)) (zal (IsK.stb.old Y_2.out)) (Nat.le_refl _) (Nat.le_refl _) (Nat.le_trans Lx.out (by omega)) (Nat.le_trans Ly.out (by omega))); (with_reducible refine hc.mono ?_); clear hc; rintro e wp1 ⟨⟨v4, rfl, hv4⟩, hb⟩; have newN := Lib.hid (zaz hv4 sz_5.out); have Qa_6 := Lib.hid (IsQ.stb.next Qa_5.out (hb)); have Ra_6 := Lib.hid (Row.next Ra_5.out (hb)); have Qb_6 := Lib.hid (IsQ.stb.next Qb_5.out (hb)); have Rb_6 := Lib.hid (Row.next Rb_5.out (hb)); have Z_6 := Lib.hid (Row.next Z_5.out (hb)); have bw_6 := Lib.hid (zaa bw_5.out (hb)); have sz_6 := Lib.hid (zah sz_5.out (hb)); have X_4 := Lib.hid (IsK.stb.fresh X_3.out (hb)); have Y_3 := Lib.hid (IsK.stb.fresh Y_2.out (hb)); have D_2 := Lib.hid (IsK.stb.fresh D_1.out (hb)); clear Qa_5 Ra_5 Qb_5 Rb_5 Z_5 bw_5 sz_5 X_3 Y_2 D_1; have N_0 := newN; clear newN; obtain ⟨P4, k4, rfl, _, _, _⟩ := id hv4; clear cRa0_10 cRa1_10 cRa2_10 cRb0_11 cRb1_11 cRb2_11 cZ0_12 cZ1_12 cZ2_12 fZ0_12 fZ1_12 fZ2_12; obtain ⟨cRa0_13, cRa1_13, cRa2_13⟩ := zad Ra_6.out; obtain ⟨cRb0_14, cRb1_14, cRb2_14⟩ := zad Rb_6.out; obtain ⟨cZ0_15, cZ1_15, cZ2_15⟩ := zad Z_6.out; obtain ⟨fZ0_15, fZ1_15, fZ2_15⟩ := zaq Z_6.out)
        | (go_at_call 80; have hc := lowest_q (neg := nega) (zal (IsK.stb.old N_0.out)) (zal (IsK.stb.old D_2.out)) Hd0.out Hnl.out Ld.out Hq.out; (with_reducible refine hc.mono ?_); clear hc; rintro e wp2 ⟨⟨v5, rfl, hv5⟩, hb⟩; have newV := Lib.hid (IsQ.stb.le hv5 sz_6.out); have Qa_7 := Lib.hid (IsQ.stb.next Qa_6.out (hb)); have Ra_7 := Lib.hid (Row.next Ra_6.out (hb)); have Qb_7 := Lib.hid (IsQ.stb.next Qb_6.out (hb)); have Rb_7 := Lib.hid (Row.next Rb_6.out (hb)); have Z_7 := Lib.hid (Row.next Z_6.out (hb)); have bw_7 := Lib.hid (zaa bw_6.out (hb)); have sz_7 := Lib.hid (zah sz_6.out (hb)); have X_5 := Lib.hid (IsK.stb.fresh X_4.out (hb)); have Y_4 := Lib.hid (IsK.stb.fresh Y_3.out (hb)); have D_3 := Lib.hid (IsK.stb.fresh D_2.out (hb)); have N_1 := Lib.hid (IsK.stb.fresh N_0.out (hb)); clear Qa_6 Ra_6 Qb_6 Rb_6 Z_6 bw_6 sz_6 X_4 Y_3 D_2 N_0; have V_0 := newV; clear newV; obtain ⟨s5, P5, k5, O5, l5, rfl, _, _, _⟩ := zam hv5; clear cRa0_13 cRa1_13 cRa2_13 cRb0_14 cRb1_14 cRb2_14 cZ0_15 cZ1_15 cZ2_15 fZ0_15 fZ1_15 fZ2_15; obtain ⟨cRa0_16, cRa1_16, cRa2_16⟩ := zad Ra_7.out; obtain ⟨cRb0_17, cRb1_17, cRb2_17⟩ := zad Rb_7.out; obtain ⟨cZ0_18, cZ1_18, cZ2_18⟩ := zad Z_7.out; obtain ⟨fZ0_18, fZ1_18, fZ2_18⟩ := zaq Z_7.out))
    go_wp2_with fail
    refine zbc Tryd.results31 rfl rfl (Row.put3 Z_7.out _ _ _) (zfm V_0.out bw_7.out (by omega) (by omega))
  · have Hs : Hid (negb = !nega) := by unfold Hid; cases nega <;> cases negb <;> simp at hs ⊢
    rcases Nat.lt_or_ge x y with hlt | hge
    · have Hlt := Lib.hid hlt
      obtain ⟨n, hn⟩ : ∃ n, n = y - x := ⟨_, rfl⟩
      have Hq : Hid (qc = mkRat (sg negb n) d) := Hov.out _ _ (by rw [Hs.out, hn, sg_sub' (Nat.le_of_lt hlt)]; simp)
      have Hnl : Hid ((lim n).length ≤ 2000000) := by rw [Hid, hn]; exact Nat.le_trans (zas (Nat.sub_le _ _)) (Nat.le_trans Ly.out (by omega))
      have Hn := Lib.hid hn
      have Hsg := Lib.hid (sgn_lt hlt)
      clear hn hlt
      go_wp2_with fail
      refine ((show Calls Tryd.prog 82 #[.slice P1 (lim x).length k1, .slice P2 (lim y).length k2] w3 (fun e w' => e = .returned (.int .i64 (-1)) ∧ Below w3.heap.size w3 w') from by rw [← Hsg.out]; exact (rorder_n (zal (IsK.stb.old X_2.out)) (zal (IsK.stb.old Y_1.out))).mono fun e w' ⟨he, hd⟩ => ⟨he, hd.below _⟩)).mono ?_
      rintro e w4 ⟨rfl, hb⟩
      have Qa_5 := Lib.hid (IsQ.stb.next Qa_4.out (hb))
      have Ra_5 := Lib.hid (Row.next Ra_4.out (hb))
      have Qb_5 := Lib.hid (IsQ.stb.next Qb_4.out (hb))
      have Rb_5 := Lib.hid (Row.next Rb_4.out (hb))
      have Z_5 := Lib.hid (Row.next Z_4.out (hb))
      have bw_5 := Lib.hid (zaa bw_4.out (hb))
      have sz_5 := Lib.hid (zah sz_4.out (hb))
      have X_3 := Lib.hid (IsK.stb.fresh X_2.out (hb))
      have Y_2 := Lib.hid (IsK.stb.fresh Y_1.out (hb))
      have D_1 := Lib.hid (IsK.stb.fresh D_0.out (hb))
      clear Qa_4 Ra_4 Qb_4 Rb_4 Z_4 bw_4 sz_4 X_2 Y_1 D_0
      clear cRa0_10 cRa1_10 cRa2_10 cRb0_11 cRb1_11 cRb2_11 cZ0_12 cZ1_12 cZ2_12 fZ0_12 fZ1_12 fZ2_12
      obtain ⟨cRa0_13, cRa1_13, cRa2_13⟩ := zad Ra_5.out
      obtain ⟨cRb0_14, cRb1_14, cRb2_14⟩ := zad Rb_5.out
      obtain ⟨cZ0_15, cZ1_15, cZ2_15⟩ := zad Z_5.out
      obtain ⟨fZ0_15, fZ1_15, fZ2_15⟩ := zaq Z_5.out
      go_wp2_with fail
      have Qa_6 := Lib.hid (IsQ.stb.next Qa_5.out (zab _))
      have Ra_6 := Lib.hid (Row.next Ra_5.out (zab _))
      have Qb_6 := Lib.hid (IsQ.stb.next Qb_5.out (zab _))
      have Rb_6 := Lib.hid (Row.next Rb_5.out (zab _))
      have Z_6 := Lib.hid (Row.next Z_5.out (zab _))
      have bw_6 := Lib.hid (zaa bw_5.out (zab _))
      have sz_6 := Lib.hid (zah sz_5.out (zab _))
      have X_4 := Lib.hid (IsK.stb.fresh X_3.out (zab _))
      have Y_3 := Lib.hid (IsK.stb.fresh Y_2.out (zab _))
      have D_2 := Lib.hid (IsK.stb.fresh D_1.out (zab _))
      clear Qa_5 Ra_5 Qb_5 Rb_5 Z_5 bw_5 sz_5 X_3 Y_2 D_1
      go_region_held3 (fun w' => w'.cell? ⟨w.heap.size + 1, 0, none⟩ = some (.bool negb))
        (first
          | exact cRb0_14
          | exact cRb0_17
          | exact cRb0_20
          | exact zar cRb0_20 (by omega))
        (first
          | (go_at_call 83; have hc := (show Calls Tryd.prog 83 #[.slice P2 (lim y).length k2, .slice P1 (lim x).length k1] (World.drew w4) (fun e w' => (∃ v, e = .returned v ∧ IsN w' (World.heap (World.drew w4)).size w'.heap.size v n) ∧ Below (World.heap (World.drew w4)).size (World.drew w4) w') from by rw [Hn.out]; exact rminus_n (zal (IsK.stb.old Y_3.out)) (zal (IsK.stb.old X_4.out)) (Nat.le_refl _) (Nat.le_refl _) (Nat.le_of_lt Hlt.out) (Nat.le_trans Ly.out (by omega))); (with_reducible refine hc.mono ?_); clear hc; rintro e wm1 ⟨⟨v5, rfl, hv5⟩, hb⟩; have newN := Lib.hid (zaz hv5 sz_6.out); have Qa_7 := Lib.hid (IsQ.stb.next Qa_6.out (hb)); have Ra_7 := Lib.hid (Row.next Ra_6.out (hb)); have Qb_7 := Lib.hid (IsQ.stb.next Qb_6.out (hb)); have Rb_7 := Lib.hid (Row.next Rb_6.out (hb)); have Z_7 := Lib.hid (Row.next Z_6.out (hb)); have bw_7 := Lib.hid (zaa bw_6.out (hb)); have sz_7 := Lib.hid (zah sz_6.out (hb)); have X_5 := Lib.hid (IsK.stb.fresh X_4.out (hb)); have Y_4 := Lib.hid (IsK.stb.fresh Y_3.out (hb)); have D_3 := Lib.hid (IsK.stb.fresh D_2.out (hb)); clear Qa_6 Ra_6 Qb_6 Rb_6 Z_6 bw_6 sz_6 X_4 Y_3 D_2; have N_0 := newN; clear newN; obtain ⟨P5, k5, rfl, _, _, _⟩ := id hv5; clear cRa0_13 cRa1_13 cRa2_13 cRb0_14 cRb1_14 cRb2_14 cZ0_15 cZ1_15 cZ2_15 fZ0_15 fZ1_15 fZ2_15; obtain ⟨cRa0_16, cRa1_16, cRa2_16⟩ := zad Ra_7.out; obtain ⟨cRb0_17, cRb1_17, cRb2_17⟩ := zad Rb_7.out; obtain ⟨cZ0_18, cZ1_18, cZ2_18⟩ := zad Z_7.out; obtain ⟨fZ0_18, fZ1_18, fZ2_18⟩ := zaq Z_7.out)
          | (go_at_call 80; have hc := lowest_q (neg := negb) (zal (IsK.stb.old N_0.out)) (zal (IsK.stb.old D_3.out)) Hd0.out Hnl.out Ld.out Hq.out; (with_reducible refine hc.mono ?_); clear hc; rintro e wm2 ⟨⟨v6, rfl, hv6⟩, hb⟩; have newV := Lib.hid (IsQ.stb.le hv6 sz_7.out); have Qa_8 := Lib.hid (IsQ.stb.next Qa_7.out (hb)); have Ra_8 := Lib.hid (Row.next Ra_7.out (hb)); have Qb_8 := Lib.hid (IsQ.stb.next Qb_7.out (hb)); have Rb_8 := Lib.hid (Row.next Rb_7.out (hb)); have Z_8 := Lib.hid (Row.next Z_7.out (hb)); have bw_8 := Lib.hid (zaa bw_7.out (hb)); have sz_8 := Lib.hid (zah sz_7.out (hb)); have X_6 := Lib.hid (IsK.stb.fresh X_5.out (hb)); have Y_5 := Lib.hid (IsK.stb.fresh Y_4.out (hb)); have D_4 := Lib.hid (IsK.stb.fresh D_3.out (hb)); have N_1 := Lib.hid (IsK.stb.fresh N_0.out (hb)); clear Qa_7 Ra_7 Qb_7 Rb_7 Z_7 bw_7 sz_7 X_5 Y_4 D_3 N_0; have V_0 := newV; clear newV; obtain ⟨s6, P6, k6, O6, l6, rfl, _, _, _⟩ := zam hv6; clear cRa0_16 cRa1_16 cRa2_16 cRb0_17 cRb1_17 cRb2_17 cZ0_18 cZ1_18 cZ2_18 fZ0_18 fZ1_18 fZ2_18; obtain ⟨cRa0_19, cRa1_19, cRa2_19⟩ := zad Ra_8.out; obtain ⟨cRb0_20, cRb1_20, cRb2_20⟩ := zad Rb_8.out; obtain ⟨cZ0_21, cZ1_21, cZ2_21⟩ := zad Z_8.out; obtain ⟨fZ0_21, fZ1_21, fZ2_21⟩ := zaq Z_8.out))
      go_wp2_with fail
      refine zbc Tryd.results31 rfl rfl (Row.put3 Z_8.out _ _ _) (zfm V_0.out bw_8.out (by omega) (by omega))
    · have Hge := Lib.hid hge
      obtain ⟨n, hn⟩ : ∃ n, n = x - y := ⟨_, rfl⟩
      have Hq : Hid (qc = mkRat (sg nega n) d) := Hov.out _ _ (by rw [Hs.out, hn, sg_sub hge])
      have Hnl : Hid ((lim n).length ≤ 2000000) := by rw [Hid, hn]; exact Nat.le_trans (zas (Nat.sub_le _ _)) (Nat.le_trans Lx.out (by omega))
      have Hn := Lib.hid hn
      obtain ⟨r, hr, hr0⟩ : ∃ r, r = sgn x y ∧ 0 ≤ r := by
        refine ⟨_, rfl, ?_⟩
        rcases Nat.lt_or_ge y x with h | h
        · rw [sgn_gt h]; omega
        · rw [sgn_eq (Nat.le_antisymm h hge)]; omega
      have Hsg := Lib.hid hr
      clear hn hge hr
      go_wp2_with fail
      refine ((show Calls Tryd.prog 82 #[.slice P1 (lim x).length k1, .slice P2 (lim y).length k2] w3 (fun e w' => e = .returned (.int .i64 r) ∧ Below w3.heap.size w3 w') from by rw [Hsg.out]; exact (rorder_n (zal (IsK.stb.old X_2.out)) (zal (IsK.stb.old Y_1.out))).mono fun e w' ⟨he, hd⟩ => ⟨he, hd.below _⟩)).mono ?_
      rintro e w4 ⟨rfl, hb⟩
      have Qa_5 := Lib.hid (IsQ.stb.next Qa_4.out (hb))
      have Ra_5 := Lib.hid (Row.next Ra_4.out (hb))
      have Qb_5 := Lib.hid (IsQ.stb.next Qb_4.out (hb))
      have Rb_5 := Lib.hid (Row.next Rb_4.out (hb))
      have Z_5 := Lib.hid (Row.next Z_4.out (hb))
      have bw_5 := Lib.hid (zaa bw_4.out (hb))
      have sz_5 := Lib.hid (zah sz_4.out (hb))
      have X_3 := Lib.hid (IsK.stb.fresh X_2.out (hb))
      have Y_2 := Lib.hid (IsK.stb.fresh Y_1.out (hb))
      have D_1 := Lib.hid (IsK.stb.fresh D_0.out (hb))
      clear Qa_4 Ra_4 Qb_4 Rb_4 Z_4 bw_4 sz_4 X_2 Y_1 D_0
      clear cRa0_10 cRa1_10 cRa2_10 cRb0_11 cRb1_11 cRb2_11 cZ0_12 cZ1_12 cZ2_12 fZ0_12 fZ1_12 fZ2_12
      obtain ⟨cRa0_13, cRa1_13, cRa2_13⟩ := zad Ra_5.out
      obtain ⟨cRb0_14, cRb1_14, cRb2_14⟩ := zad Rb_5.out
      obtain ⟨cZ0_15, cZ1_15, cZ2_15⟩ := zad Z_5.out
      obtain ⟨fZ0_15, fZ1_15, fZ2_15⟩ := zaq Z_5.out
      go_wp2_with fail
      have Qa_6 := Lib.hid (IsQ.stb.next Qa_5.out (zab _))
      have Ra_6 := Lib.hid (Row.next Ra_5.out (zab _))
      have Qb_6 := Lib.hid (IsQ.stb.next Qb_5.out (zab _))
      have Rb_6 := Lib.hid (Row.next Rb_5.out (zab _))
      have Z_6 := Lib.hid (Row.next Z_5.out (zab _))
      have bw_6 := Lib.hid (zaa bw_5.out (zab _))
      have sz_6 := Lib.hid (zah sz_5.out (zab _))
      have X_4 := Lib.hid (IsK.stb.fresh X_3.out (zab _))
      have Y_3 := Lib.hid (IsK.stb.fresh Y_2.out (zab _))
      have D_2 := Lib.hid (IsK.stb.fresh D_1.out (zab _))
      clear Qa_5 Ra_5 Qb_5 Rb_5 Z_5 bw_5 sz_5 X_3 Y_2 D_1
      go_region_held3 (fun w' => w'.cell? ⟨w.heap.size, 0, none⟩ = some (.bool nega))
        (first
          | exact cRa0_13
          | exact cRa0_16
          | exact cRa0_19
          | exact zar cRa0_19 (by omega))
        (first
          | (go_at_call 83; have hc := (show Calls Tryd.prog 83 #[.slice P1 (lim x).length k1, .slice P2 (lim y).length k2] (World.drew w4) (fun e w' => (∃ v, e = .returned v ∧ IsN w' (World.heap (World.drew w4)).size w'.heap.size v n) ∧ Below (World.heap (World.drew w4)).size (World.drew w4) w') from by rw [Hn.out]; exact rminus_n (zal (IsK.stb.old X_4.out)) (zal (IsK.stb.old Y_3.out)) (Nat.le_refl _) (Nat.le_refl _) Hge.out (Nat.le_trans Lx.out (by omega))); (with_reducible refine hc.mono ?_); clear hc; rintro e wm1 ⟨⟨v5, rfl, hv5⟩, hb⟩; have newN := Lib.hid (zaz hv5 sz_6.out); have Qa_7 := Lib.hid (IsQ.stb.next Qa_6.out (hb)); have Ra_7 := Lib.hid (Row.next Ra_6.out (hb)); have Qb_7 := Lib.hid (IsQ.stb.next Qb_6.out (hb)); have Rb_7 := Lib.hid (Row.next Rb_6.out (hb)); have Z_7 := Lib.hid (Row.next Z_6.out (hb)); have bw_7 := Lib.hid (zaa bw_6.out (hb)); have sz_7 := Lib.hid (zah sz_6.out (hb)); have X_5 := Lib.hid (IsK.stb.fresh X_4.out (hb)); have Y_4 := Lib.hid (IsK.stb.fresh Y_3.out (hb)); have D_3 := Lib.hid (IsK.stb.fresh D_2.out (hb)); clear Qa_6 Ra_6 Qb_6 Rb_6 Z_6 bw_6 sz_6 X_4 Y_3 D_2; have N_0 := newN; clear newN; obtain ⟨P5, k5, rfl, _, _, _⟩ := id hv5; clear cRa0_13 cRa1_13 cRa2_13 cRb0_14 cRb1_14 cRb2_14 cZ0_15 cZ1_15 cZ2_15 fZ0_15 fZ1_15 fZ2_15; obtain ⟨cRa0_16, cRa1_16, cRa2_16⟩ := zad Ra_7.out; obtain ⟨cRb0_17, cRb1_17, cRb2_17⟩ := zad Rb_7.out; obtain ⟨cZ0_18, cZ1_18, cZ2_18⟩ := zad Z_7.out; obtain ⟨fZ0_18, fZ1_18, fZ2_18⟩ := zaq Z_7.out)
          | (go_at_call 80; have hc := lowest_q (neg := nega) (zal (IsK.stb.old N_0.out)) (zal (IsK.stb.old D_3.out)) Hd0.out Hnl.out Ld.out Hq.out; (with_reducible refine hc.mono ?_); clear hc; rintro e wm2 ⟨⟨v6, rfl, hv6⟩, hb⟩; have newV := Lib.hid (IsQ.stb.le hv6 sz_7.out); have Qa_8 := Lib.hid (IsQ.stb.next Qa_7.out (hb)); have Ra_8 := Lib.hid (Row.next Ra_7.out (hb)); have Qb_8 := Lib.hid (IsQ.stb.next Qb_7.out (hb)); have Rb_8 := Lib.hid (Row.next Rb_7.out (hb)); have Z_8 := Lib.hid (Row.next Z_7.out (hb)); have bw_8 := Lib.hid (zaa bw_7.out (hb)); have sz_8 := Lib.hid (zah sz_7.out (hb)); have X_6 := Lib.hid (IsK.stb.fresh X_5.out (hb)); have Y_5 := Lib.hid (IsK.stb.fresh Y_4.out (hb)); have D_4 := Lib.hid (IsK.stb.fresh D_3.out (hb)); have N_1 := Lib.hid (IsK.stb.fresh N_0.out (hb)); clear Qa_7 Ra_7 Qb_7 Rb_7 Z_7 bw_7 sz_7 X_5 Y_4 D_3 N_0; have V_0 := newV; clear newV; obtain ⟨s6, P6, k6, O6, l6, rfl, _, _, _⟩ := zam hv6; clear cRa0_16 cRa1_16 cRa2_16 cRb0_17 cRb1_17 cRb2_17 cZ0_18 cZ1_18 cZ2_18 fZ0_18 fZ1_18 fZ2_18; obtain ⟨cRa0_19, cRa1_19, cRa2_19⟩ := zad Ra_8.out; obtain ⟨cRb0_20, cRb1_20, cRb2_20⟩ := zad Rb_8.out; obtain ⟨cZ0_21, cZ1_21, cZ2_21⟩ := zad Z_8.out; obtain ⟨fZ0_21, fZ1_21, fZ2_21⟩ := zaq Z_8.out))
      go_wp2_with fail
      refine zbc Tryd.results31 rfl rfl (Row.put3 Z_8.out _ _ _) (zfm V_0.out bw_8.out (by omega) (by omega))
structure DrawnM (n m : Nat) (M : List (List Rat)) : Prop where
  len : M.length = n
  row : ∀ r ∈ M, r.length = m
  num : ∀ i r, M[i]? = some r → ∀ q ∈ r, Twelve (48 * 2 ^ i) q
theorem pow_le5 {i : Nat} (h : i ≤ 5) : 48 * 2 ^ i ≤ 1536 := by
  have : i = 0 ∨ i = 1 ∨ i = 2 ∨ i = 3 ∨ i = 4 ∨ i = 5 := by omega
  rcases this with rfl | rfl | rfl | rfl | rfl | rfl <;> decide
theorem DrawnM.twelve {n m : Nat} {M : List (List Rat)} (h : DrawnM n m M) (hn : n ≤ 5) : ∀ r ∈ M, ∀ q ∈ r, Twelve 1536 q := fun r hr q hq => by
  obtain ⟨i, hi, rfl⟩ := List.getElem_of_mem hr
  have hl := h.len
  exact (h.num i _ (List.getElem?_eq_getElem hi) q hq).le (pow_le5 (by omega))
theorem DrawnM.sz {n m : Nat} {M : List (List Rat)} (h : DrawnM n m M) (hn : n ≤ 5) : ∀ r ∈ M, ∀ q ∈ r, Sz q 1 := fun r hr q hq => (h.twelve hn r hr q hq).sz (by omega)
theorem DrawnM.snoc {n m : Nat} {M : List (List Rat)} {r : List Rat} (h : DrawnM n m M) (hr : r.length = m) (hq : ∀ q ∈ r, Twelve (48 * 2 ^ n) q) : DrawnM (n + 1) m (M ++ [r]) := by
  refine ⟨by simp [h.len], fun s hs => ?_, fun i s hs q hq' => ?_⟩
  · rcases List.mem_append.1 hs with hs | hs
    · exact h.row s hs
    · rw [List.mem_singleton.1 hs]; exact hr
  · rcases Nat.lt_or_ge i M.length with hi | hi
    · rw [List.getElem?_append_left hi] at hs
      exact h.num i s hs q hq'
    · rw [List.getElem?_append_right hi] at hs
      have : i - M.length = 0 := by
        rcases Nat.eq_zero_or_pos (i - M.length) with h0 | h0
        · exact h0
        · rw [List.getElem?_eq_none (by simp; omega)] at hs; cases hs
      rw [this] at hs
      cases hs
      have hl := h.len
      obtain rfl : i = n := by omega
      exact hq q hq'
set_option maxRecDepth 100000 in
set_option maxHeartbeats 8000000 in
theorem matrix_l {w : World} {g : Nat} {l : List Int} (hD : IsD w g l) {n m : Nat} (hn : n ≤ 5) (hm : m ≤ 5) : Calls Tryd.prog 24 #[.pointer (some ⟨g, 0, none⟩), .int .i64 (n : Int), .int .i64 (m : Int)] w (DrewR IsM (fun a => ∃ M : List (List Rat), a = rawM M ∧ DrawnM n m M) w g l) := by
  have hgw := hD.lt
  have D0 := Lib.hid hD
  clear hD
  go_enter Tryd.func24, Tryd.ntmps24
  go_wp2_with fail
  go_loopw [8, 7, 9, 10, 11] (fun ii ov _ _ _ wr => ∃ (i : Nat) (S : Nat → Prop) (M : List (List Rat)), i ≤ n ∧ ii = .int .i64 (i : Int) ∧ w.grownBy wr (some g) ∧ IsD wr g l ∧ Hid (OwnS 1 29 IsV wr w.heap.size S ov (rawM M)) ∧ Hid (DrawnM i m M ∧ ∀ b, S b → w.heap.size ≤ b)) (fun ii _ _ _ _ _ => n - (intOf ii).toNat)
  case atStart => exact ⟨0, fun _ => False, [], Nat.zero_le _, rfl, zak _ _, D0.out, OwnS.nil (fun b hb => hb.elim), ⟨rfl, (fun _ h => by cases h), fun _ _ h => by cases h⟩, fun b hb => hb.elim⟩
  case round =>
    obtain ⟨wo, rfl⟩ : ∃ x, x = wr := ⟨_, rfl⟩
    obtain ⟨i, S, M, hi, rfl, hgr, hD, hown, hM⟩ := hrel
    have G := Lib.hid hgr
    have D := Lib.hid hD
    have Own := Lib.hid hown.out
    have HM := Lib.hid hM.out.1
    have HS := Lib.hid hM.out.2
    clear hgr hD hown hM
    rcases Nat.lt_or_ge i n with hlt | hge
    · have Hlt := Lib.hid hlt
      have hgo : g < wo.heap.size := Nat.lt_of_lt_of_le hgw G.out.size
      obtain ⟨A0, cA0, hA0⟩ := Own.out.slice
      rw [zbs, HM.out.len] at hA0
      subst hA0
      go_wp2_with fail
      clear hlt
      go_loopw [10, 9, 11] (fun kk rv _ wi => ∃ (k : Nat) (S2 : Nat → Prop) (q : List Rat), k ≤ m ∧ kk = .int .i64 (k : Int) ∧ wo.grownBy wi (some g) ∧ IsD wi g l ∧ Hid (OwnS 3 50 IsR wi wo.heap.size S2 rv (rawV q)) ∧ Hid (q.length = k ∧ (∀ x ∈ q, Twelve (48 * 2 ^ i) x) ∧ ∀ b, S2 b → wo.heap.size ≤ b)) (fun kk _ _ _ => m - (intOf kk).toNat)
      case atStart => exact ⟨0, fun _ => False, [], Nat.zero_le _, rfl, (zak _ _), D.out, OwnS.nil (fun b hb => hb.elim), rfl, (fun _ h => by cases h), fun b hb => hb.elim⟩
      case round =>
        obtain ⟨wi, rfl⟩ : ∃ x, x = wr := ⟨_, rfl⟩
        obtain ⟨k, S2, q, hk, rfl, hgi, hDi, hrow, hq⟩ := hrel
        have GI := Lib.hid hgi
        have DI := Lib.hid hDi
        have OwnI := Lib.hid hrow.out
        have hql := hq.out.1
        have hzi : wo.heap.size ≤ wi.heap.size := GI.out.size
        clear hgi hDi hrow
        rcases Nat.lt_or_ge k m with hkm | hkm
        · have Hkm := Lib.hid hkm
          go_wp2_with fail
          refine (rational_q DI.out (.inl rfl)).mono ?_
          rintro e w2 ⟨⟨v2, x', rfl, hv2, hsx'⟩, hD2, hg2⟩
          obtain ⟨s2, P2, k2, O2, l2, rfl, _, _, _⟩ := zam hv2
          obtain ⟨wx, hwx, hbx, rx, hzx⟩ := zcf w2 #[.bool s2, .slice P2 (lim x'.num.natAbs).length k2, .slice O2 (lim x'.den).length l2] 50
          have G2 := Lib.hid (zap hg2 (zbe hbx))
          have D2 := Lib.hid (hD2.next hbx hD2.lt)
          have V2 := Lib.hid (IsQ.stb.fresh hv2 hbx)
          have RX := Lib.hid rx
          have Hzx := Lib.hid hzx.out
          have T2 : Hid (Twelve 48 x') := Drawn.twelve hsx'
          obtain ⟨g0, g1, g2⟩ := zad rx
          have hgx : g ≠ w2.heap.size := by have := hD2.lt; omega
          have hz2 : wi.heap.size ≤ w2.heap.size := hg2.size
          clear hv2 hsx' hD2 hg2 rx hzx hbx
          have hown2 : Hid (OwnS 3 50 IsR wx wo.heap.size (fun b => S2 b ∨ (wi.heap.size ≤ b ∧ b < wx.heap.size)) _ (rawV q)) := OwnS.drawn IsR.stb OwnI.out hq.out.2.2 G2.out hgo
          by_cases hi1 : 1 < i
          · have hi1' : (1 : Int) < (i : Int) := by omega
            go_wp2_with fail
            clear hwx g0 g1 g2
            refine (next_i D2.out 3 (by omega) (by omega)).mono ?_
            rintro e w3 ⟨⟨y, hy0, hy1, rfl⟩, hD3, hO3⟩
            have D3 := Lib.hid hD3
            have G3 := Lib.hid hO3.grown
            have G7 := Lib.hid (zap GI.out (zap G2.out hO3.grown))
            have R3 := Lib.hid (RX.out.grownN hO3.grown fun b e => by cases e; exact hgx.symm)
            have hz3 : w3.heap.size = wx.heap.size := hO3.size
            have Hz3 := Lib.hid hz3
            have V3 : Hid (IsQ w3 (New wi.heap.size w3) (.agg #[.bool s2, .slice P2 (lim x'.num.natAbs).length k2, .slice O2 (lim x'.den).length l2]) x') := IsQ.stb.to V2.out fun b hb => ⟨⟨hb.1, by rw [hz3]; exact hb.2⟩, fun o => World.cell?_of_block (hO3.block b (by have h1 := hb.1; have h2 := DI.out.lt; omega))⟩
            obtain ⟨g0, g1, g2⟩ := zad R3.out
            clear hD3 hO3 hz3
            by_cases hy : y = 0
            · subst hy
              obtain ⟨i1, hi1e⟩ : ∃ i1, i = i1 + 1 := ⟨i - 1, by omega⟩
              obtain ⟨i2, hi2e⟩ : ∃ i2, i = i2 + 2 := ⟨i - 2, by omega⟩
              have GO3 : wo.grownBy w3 (some g) := G7.out
              have hMo : IsM wo (New w.heap.size wo) (.slice A0 i cA0) (rawM M) := OwnS.isS IsV.stb Own.out (fun b hb => by
                obtain ⟨_, _, _, _, h4⟩ := Own.out
                exact ⟨HS.out b hb, (h4 b hb).1⟩) (fun b h1 h2 => ⟨h1, h2⟩)
              have hM3 : IsM w3 (New w.heap.size wo) (.slice A0 i cA0) (rawM M) := IsM.stb.to hMo (zex GO3 fun b hb => ⟨hb.2, fun e => by have := hb.1; cases e; omega⟩)
              obtain ⟨r1, hr1, hrr1⟩ := zeg (m := M) (j := i1) (by rw [HM.out.len]; omega)
              obtain ⟨r2, hr2, hrr2⟩ := zeg (m := M) (j := i2) (by rw [HM.out.len]; omega)
              obtain ⟨b0, o0, R1, c1, hA0, hSb0, hel1, e0⟩ := zcr hM3 hrr1
              obtain ⟨b0', o0', R2, c2, hA0', _, hel2, e1⟩ := zcr hM3 hrr2
              rw [hA0] at hA0'
              cases hA0'
              subst hA0
              have el1 : (rawV r1).length = m := by rw [zbi]; exact HM.out.row r1 (List.mem_of_getElem? hr1)
              have el2 : (rawV r2).length = m := by rw [zbi]; exact HM.out.row r2 (List.mem_of_getElem? hr2)
              rw [el1] at e0 hel1
              rw [el2] at e1 hel2
              obtain ⟨x, hx, hrx⟩ := zeh (l := r1) (j := k) (by rw [← zbi, el1]; exact Hkm.out)
              obtain ⟨y, hy, hry⟩ := zeh (l := r2) (j := k) (by rw [← zbi, el2]; exact Hkm.out)
              obtain ⟨b1, o1, X1, X2, X3, X4, rfl, hSb1, helx, e2, e3, e4⟩ := zdn hel1 hrx
              obtain ⟨b2, o2, Y1, Y2, Y3, Y4, rfl, hSb2, hely, e5, e6, e7⟩ := zdn hel2 hry
              obtain ⟨x0, hx0⟩ : ∃ s, s = (raw x).neg := ⟨_, rfl⟩
              obtain ⟨x1, hx1⟩ : ∃ s, s = (raw x).num.length := ⟨_, rfl⟩
              obtain ⟨x2, hx2⟩ : ∃ s, s = (raw x).den.length := ⟨_, rfl⟩
              obtain ⟨y0, hy0⟩ : ∃ s, s = (raw y).neg := ⟨_, rfl⟩
              obtain ⟨y1, hy1⟩ : ∃ s, s = (raw y).num.length := ⟨_, rfl⟩
              obtain ⟨y2, hy2⟩ : ∃ s, s = (raw y).den.length := ⟨_, rfl⟩
              rw [← hx0] at e2
              rw [← hx1] at e3
              rw [← hx2] at e4
              rw [← hy0] at e5
              rw [← hy1] at e6
              rw [← hy2] at e7
              rw [← hx0, ← hx1, ← hx2] at helx
              rw [← hy0, ← hy1, ← hy2] at hely
              have E := Lib.hid (And.intro e0 (And.intro e1 (And.intro e2 (And.intro e3 (And.intro e4 (And.intro e5 (And.intro e6 e7)))))))
              have Qx := Lib.hid (IsQ.stb.to (isR_isQ helx) (zay fun b hb => Nat.lt_of_lt_of_le hb.2 G7.out.size : Same _ (Old w3) w3 w3))
              have Qy := Lib.hid (IsQ.stb.to (isR_isQ hely) (zay fun b hb => Nat.lt_of_lt_of_le hb.2 G7.out.size : Same _ (Old w3) w3 w3))
              obtain ⟨z, hz⟩ : ∃ z, z = x + y := ⟨_, rfl⟩
              have Hz := Lib.hid hz
              have Tx := Lib.hid (HM.out.num i1 r1 hr1 x (List.mem_of_getElem? hx))
              have Ty := Lib.hid (HM.out.num i2 r2 hr2 y (List.mem_of_getElem? hy))
              have Tz : Hid (Twelve (48 * 2 ^ i) z) := by
                rw [Hid, hz]
                refine (Tx.out.add Ty.out).le ?_
                have h1 : i1 = i2 + 1 := by omega
                rw [hi2e, h1, Nat.pow_succ, Nat.pow_succ]
                omega
              have hin5 : i ≤ 5 := by omega
              have p1 := pow_le5 (i := i1) (by omega)
              have p2 := pow_le5 (i := i2) (by omega)
              have Hsx : Hid (Sz x 100000) := (Tx.out.sz (by omega)).le (by omega)
              have Hsy : Hid (Sz y 100000) := (Ty.out.sz (by omega)).le (by omega)
              have hw1 : (i : Int) - 1 = (i1 : Int) := by omega
              have hw2 : (i : Int) - 2 = (i2 : Int) := by omega
              have hwr1 : IntKind.i64.wrap (i1 : Int) = (i1 : Int) := IntWalk.i64_in _ (by omega)
              have hwr2 : IntKind.i64.wrap (i2 : Int) = (i2 : Int) := IntWalk.i64_in _ (by omega)
              have hp1 : (0 : Int) ≤ (i1 : Int) := by omega
              have hp2 : (0 : Int) ≤ (i2 : Int) := by omega
              have hpk : (0 : Int) ≤ (k : Int) := by omega
              have hl1 : (i1 : Int) < (i : Int) := by omega
              have hl2 : (i2 : Int) < (i : Int) := by omega
              have hk9 : (k : Int) < (m : Int) := by omega
              have Hbb : Hid (b0 < w3.heap.size ∧ True) := ⟨World.block_lt_of_cell? w3 _ e0, trivial⟩
              have cr := zbr
              have Hnb : Hid ((b0 ≠ w2.heap.size ∧ b1 ≠ w2.heap.size) ∧ b2 ≠ w2.heap.size) := by have := hSb0.2; have := hSb1.2; have := hSb2.2; refine ⟨⟨?_, ?_⟩, ?_⟩ <;> omega
              have hnb := Hnb.out
              have hzg : w2.heap.size < w3.heap.size := by rw [Hz3.out, Hzx.out]; exact Nat.lt_succ_self _
              clear hr1 hr2 hrr1 hrr2 hx hy hrx hry helx hely hx0 hx1 hx2 hy0 hy1 hy2 hz hel1 hel2 el1 el2 hSb0 hSb1 hSb2 hM3 hMo GO3 hi1e hi2e p1 p2 hin5
              go_wp2_with fail
              have HS : Hid (∀ W : World, Below w3.heap.size w3 W → W.cell? ⟨b0, o0 + i1, none⟩ = some (.slice (some ⟨b1, o1, none⟩) m c1) ∧ W.cell? ⟨b0, o0 + i2, none⟩ = some (.slice (some ⟨b2, o2, none⟩) m c2) ∧ W.cell? ⟨b1, o1 + k * 3, none⟩ = some (.bool x0) ∧ W.cell? ⟨b1, o1 + k * 3 + 1, none⟩ = some (.slice X1 x1 X2) ∧ W.cell? ⟨b1, o1 + k * 3 + 2, none⟩ = some (.slice X3 x2 X4) ∧ W.cell? ⟨b2, o2 + k * 3, none⟩ = some (.bool y0) ∧ W.cell? ⟨b2, o2 + k * 3 + 1, none⟩ = some (.slice Y1 y1 Y2) ∧ W.cell? ⟨b2, o2 + k * 3 + 2, none⟩ = some (.slice Y3 y2 Y4)) := fun W hW => ⟨zac hW E.out.1, zac hW E.out.2.1, zac hW E.out.2.2.1, zac hW E.out.2.2.2.1, zac hW E.out.2.2.2.2.1, zac hW E.out.2.2.2.2.2.1, zac hW E.out.2.2.2.2.2.2.1, zac hW E.out.2.2.2.2.2.2.2⟩
              have D5 : Hid (∀ W : World, Below w3.heap.size w3 W → Calls Tryd.prog 31 #[.agg #[.bool x0, .slice X1 x1 X2, .slice X3 x2 X4], .agg #[.bool y0, .slice Y1 y1 Y2, .slice Y3 y2 Y4]] W (RetQ W z)) := fun W hW => raddq (IsQ.stb.next Qx.out hW) (IsQ.stb.next Qy.out hW) Hsx.out Hsy.out Hz.out
              go_region_held3 (fun w' => w'.cell? ⟨b0, o0 + i1, none⟩ = some (.slice (some ⟨b1, o1, none⟩) m c1) ∧ w'.cell? ⟨b0, o0 + i2, none⟩ = some (.slice (some ⟨b2, o2, none⟩) m c2) ∧ w'.cell? ⟨b1, o1 + k * 3, none⟩ = some (.bool x0) ∧ w'.cell? ⟨b1, o1 + k * 3 + 1, none⟩ = some (.slice X1 x1 X2) ∧ w'.cell? ⟨b1, o1 + k * 3 + 2, none⟩ = some (.slice X3 x2 X4) ∧ w'.cell? ⟨b2, o2 + k * 3, none⟩ = some (.bool y0) ∧ w'.cell? ⟨b2, o2 + k * 3 + 1, none⟩ = some (.slice Y1 y1 Y2) ∧ w'.cell? ⟨b2, o2 + k * 3 + 2, none⟩ = some (.slice Y3 y2 Y4))
                (first | exact HS.out _ (by (repeat (first | exact Below.refl _ _ | assumption | refine zae ?_ _ | refine zaf ?_ | refine zag ?_ ?_ _ _ _ | refine zai ?_ (by omega) | refine zaa ?_ (by assumption))); (first | done | fail)) | exact ⟨zar (HS.out _ (by (repeat (first | exact Below.refl _ _ | assumption | refine zae ?_ _ | refine zaf ?_ | refine zag ?_ ?_ _ _ _ | refine zai ?_ (by omega) | refine zaa ?_ (by assumption))); (first | done | fail))).1 (by omega), zar (HS.out _ (by (repeat (first | exact Below.refl _ _ | assumption | refine zae ?_ _ | refine zaf ?_ | refine zag ?_ ?_ _ _ _ | refine zai ?_ (by omega) | refine zaa ?_ (by assumption))); (first | done | fail))).2.1 (by omega), zar (HS.out _ (by (repeat (first | exact Below.refl _ _ | assumption | refine zae ?_ _ | refine zaf ?_ | refine zag ?_ ?_ _ _ _ | refine zai ?_ (by omega) | refine zaa ?_ (by assumption))); (first | done | fail))).2.2.1 (by omega), zar (HS.out _ (by (repeat (first | exact Below.refl _ _ | assumption | refine zae ?_ _ | refine zaf ?_ | refine zag ?_ ?_ _ _ _ | refine zai ?_ (by omega) | refine zaa ?_ (by assumption))); (first | done | fail))).2.2.2.1 (by omega), zar (HS.out _ (by (repeat (first | exact Below.refl _ _ | assumption | refine zae ?_ _ | refine zaf ?_ | refine zag ?_ ?_ _ _ _ | refine zai ?_ (by omega) | refine zaa ?_ (by assumption))); (first | done | fail))).2.2.2.2.1 (by omega), zar (HS.out _ (by (repeat (first | exact Below.refl _ _ | assumption | refine zae ?_ _ | refine zaf ?_ | refine zag ?_ ?_ _ _ _ | refine zai ?_ (by omega) | refine zaa ?_ (by assumption))); (first | done | fail))).2.2.2.2.2.1 (by omega), zar (HS.out _ (by (repeat (first | exact Below.refl _ _ | assumption | refine zae ?_ _ | refine zaf ?_ | refine zag ?_ ?_ _ _ _ | refine zai ?_ (by omega) | refine zaa ?_ (by assumption))); (first | done | fail))).2.2.2.2.2.2.1 (by omega), zar (HS.out _ (by (repeat (first | exact Below.refl _ _ | assumption | refine zae ?_ _ | refine zaf ?_ | refine zag ?_ ?_ _ _ _ | refine zai ?_ (by omega) | refine zaa ?_ (by assumption))); (first | done | fail))).2.2.2.2.2.2.2 (by omega)⟩)
                (first
                  | (go_at_call 31; (with_reducible refine Calls.mono (D5.out _ (by (repeat (first | exact Below.refl _ _ | assumption | refine zae ?_ _ | refine zaf ?_ | refine zag ?_ ?_ _ _ _ | refine zai ?_ (by omega) | refine zaa ?_ (by assumption))); (first | done | fail))) ?_); rintro e w5 ⟨⟨v5, rfl, hv5⟩, hb5⟩; have V5 := Lib.hid (IsQ.stb.old hv5); obtain ⟨s5, P5, k5, O5, l5, rfl, _, _, _⟩ := zam hv5; have hB5 : Below w3.heap.size w3 w5 := (by (repeat (first | exact Below.refl _ _ | assumption | refine zae ?_ _ | refine zaf ?_ | refine zag ?_ ?_ _ _ _ | refine zai ?_ (by omega) | refine zaa ?_ (by assumption))); (first | done | fail)); have R5 := Lib.hid (R3.out.next hB5); obtain ⟨p0, p1, p2⟩ := zad R5.out; obtain ⟨f0, f1, f2⟩ := zaq R5.out))
              all_goals
                clear e0 e1 e2 e3 e4 e5 e6 e7
                have G5 := zap G7.out (zbe (row := some g) hB5)
                have hol := OwnS.own_lt OwnI.out
                have hS2 : ∀ b, S2 b → b < wi.heap.size := fun b hb => by obtain ⟨_, _, _, _, h4⟩ := OwnI.out; exact (h4 b hb).1
                have h3 := OwnI.out.grown IsR.stb (zap G2.out G3.out) fun b e => ⟨fun e' => by have := (hol b e').1; cases e; omega, fun hs => by have := hq.out.2.2 b hs; cases e; omega⟩
                have h5 := OwnS.step IsR.stb (T := (fun b => S2 b ∨ (w3.heap.size ≤ b ∧ b < w5.heap.size))) h3 hB5 (fun b h => .inl h) (fun b h => h)
                have gput : w5.grownBy (put3 w5 w2.heap.size (.bool s5) (.slice P5 (lim z.num.natAbs).length k5) (.slice O5 (lim z.den).length l5)) (some w2.heap.size) := zap (zap (zcl _ _ _ _) (zcl _ _ _ _)) (zcl _ _ _ _)
                have hown7 := h5.grown IsR.stb gput fun b e => ⟨fun e' => by have := (hol b e').2; cases e; omega, fun hs => by cases e; rcases hs with hs | hs; have := hS2 _ hs; omega; have := hs.1; omega⟩
                have hel7 := IsQ.stb.to hv5 (zcu (g := w2.heap.size) (a := .bool s5) (b := .slice P5 (lim z.num.natAbs).length k5) (c := .slice O5 (lim z.den).length l5) (T := (fun b => S2 b ∨ (w3.heap.size ≤ b ∧ b < w5.heap.size))) fun b hb => ⟨by have h1 : w3.heap.size ≤ b := hb.1; omega, .inr hb⟩)
                have hzo : wo.heap.size ≤ w2.heap.size := Nat.le_trans hzi hz2
                have G7 := Lib.hid (zdc (zdc (zdc G5 hzo 0 (.bool s5)) hzo 1 (.slice P5 (lim z.num.natAbs).length k5)) hzo 2 (.slice O5 (lim z.den).length l5))
                have hgw2 : g < w2.heap.size := Nat.lt_of_lt_of_le hgo hzo
                have D5 := D3.out.next hB5 D3.out.lt
                have D7 := Lib.hid (((D5.far (p := ⟨w2.heap.size, 0, none⟩) hgw2 (.bool s5)).far (p := ⟨w2.heap.size, 1, none⟩) hgw2 (.slice P5 (lim z.num.natAbs).length k5)).far (p := ⟨w2.heap.size, 2, none⟩) hgw2 (.slice O5 (lim z.den).length l5))
                have hbase7 := G7.out.size
                have hz3o : wo.heap.size ≤ w3.heap.size := by omega
                clear G5 h3 h5 gput D5
                go_wp2_with (at_builtin; refine wp_appS2 elR rfl _ _ rfl IsR.stb rfl rfl (by simp [World.setCell]) rfl hown7 hel7 rfl (by intro u hu; simp [Value.cells] at hu; rcases hu with rfl | rfl | rfl <;> rfl) (by rw [zbi]; omega) hbase7 ?_; intro v8 w8 hown8 hb8 hz8)
                go_roundw
                case rel =>
                  refine ⟨k + 1, (fun b => S2 b ∨ (w3.heap.size ≤ b ∧ b < w5.heap.size)), q ++ [z], Hkm.out, by go_num, zft G7.out hb8, D7.out.next hb8 hgo, by rw [Hid, zem]; exact hown8, by simp [hql], fun y hy => ?_, fun b hb => by rcases hb with hb | hb; exact hq.out.2.2 b hb; exact Nat.le_trans hz3o hb.1⟩
                  rcases List.mem_append.1 hy with h | h
                  · exact hq.out.2.1 y h
                  · rw [List.mem_singleton.1 h]; exact Tz.out
                case measure => have := Hkm.out; simp [intOf]; omega
            · have hy' : ¬ (y = 0) := hy
              have hown7 : OwnS 3 50 IsR w3 wo.heap.size (fun b => S2 b ∨ (wi.heap.size ≤ b ∧ b < w3.heap.size)) _ (rawV q) := OwnS.drawn IsR.stb OwnI.out hq.out.2.2 (zap G2.out G3.out) hgo
              have hel7 := IsQ.stb.to V3.out (zay (T := (fun b => S2 b ∨ (wi.heap.size ≤ b ∧ b < w3.heap.size))) fun b h => .inr h)
              have hbase7 : wo.heap.size ≤ w3.heap.size := G7.out.size
              have D7 := D3
              have TWW : Hid (Twelve (48 * 2 ^ i) x') := T2.out.le (by have := Nat.one_le_two_pow (n := i); omega)
              go_wp2_with (at_builtin; refine zcp elR rfl _ _ rfl IsR.stb rfl rfl rfl hown7 hel7 rfl (by intro u hu; simp [Value.cells] at hu; rcases hu with rfl | rfl | rfl <;> rfl) (by rw [zbi]; omega) hbase7 ?_; intro v8 w8 hown8 hb8 hz8)
              go_roundw
              case rel =>
                refine ⟨k + 1, (fun b => S2 b ∨ (wi.heap.size ≤ b ∧ b < w3.heap.size)), q ++ [x'], Hkm.out, by go_num, zft G7.out hb8, D7.out.next hb8 hgo, by rw [Hid, zem]; exact hown8, by simp [hql], fun y hy => ?_, fun b hb => by rcases hb with hb | hb; exact hq.out.2.2 b hb; exact Nat.le_trans hzi hb.1⟩
                rcases List.mem_append.1 hy with h | h
                · exact hq.out.2.1 y h
                · rw [List.mem_singleton.1 h]; exact TWW.out
              case measure => have := Hkm.out; simp [intOf]; omega
          · have hi1' : ¬ ((1 : Int) < (i : Int)) := by omega
            have hown7 := hown2.out
            have hel7 := IsQ.stb.to V2.out (zay (T := (fun b => S2 b ∨ (wi.heap.size ≤ b ∧ b < wx.heap.size))) fun b h => .inr h)
            have hbase7 : wo.heap.size ≤ wx.heap.size := Nat.le_trans hzi G2.out.size
            have D7 := D2
            have G7 := Lib.hid (zap GI.out G2.out)
            have TWW : Hid (Twelve (48 * 2 ^ i) x') := T2.out.le (by have := Nat.one_le_two_pow (n := i); omega)
            go_wp2_with (at_builtin; refine zcp elR rfl _ _ rfl IsR.stb rfl rfl rfl hown7 hel7 rfl (by intro u hu; simp [Value.cells] at hu; rcases hu with rfl | rfl | rfl <;> rfl) (by rw [zbi]; omega) hbase7 ?_; intro v8 w8 hown8 hb8 hz8)
            go_roundw
            case rel =>
              refine ⟨k + 1, (fun b => S2 b ∨ (wi.heap.size ≤ b ∧ b < wx.heap.size)), q ++ [x'], Hkm.out, by go_num, zft G7.out hb8, D7.out.next hb8 hgo, by rw [Hid, zem]; exact hown8, by simp [hql], fun y hy => ?_, fun b hb => by rcases hb with hb | hb; exact hq.out.2.2 b hb; exact Nat.le_trans hzi hb.1⟩
              rcases List.mem_append.1 hy with h | h
              · exact hq.out.2.1 y h
              · rw [List.mem_singleton.1 h]; exact TWW.out
            case measure => have := Hkm.out; simp [intOf]; omega
        · obtain rfl : k = m := by omega
          have hlt : ¬ k < k := by omega
          obtain ⟨L, cL, hL⟩ := OwnI.out.slice
          subst hL
          have hown := OwnS.drawn IsV.stb Own.out HS.out GI.out hgw
          have hel := OwnS.isS IsR.stb (T := fun b => S b ∨ (wo.heap.size ≤ b ∧ b < wi.heap.size)) OwnI.out (fun b hb => .inr ⟨hq.out.2.2 b hb, by obtain ⟨_, _, _, _, h4⟩ := OwnI.out; exact (h4 b hb).1⟩) (fun b h1 h2 => .inr ⟨h1, h2⟩)
          have hbase : w.heap.size ≤ wi.heap.size := Nat.le_trans G.out.size GI.out.size
          have hMl := HM.out.len
          go_wp2_with (at_builtin; refine zcp elV rfl _ _ rfl IsV.stb rfl rfl rfl hown hel rfl (by intro u hu; simp [Value.cells] at hu; subst hu; rfl) (by rw [zbs]; omega) hbase ?_; intro v8 w8 hown8 hb8 hz8)
          go_roundw
          case rel =>
            refine ⟨i + 1, fun b => S b ∨ (wo.heap.size ≤ b ∧ b < wi.heap.size), M ++ [q], Hlt.out, by go_num, zft (zap G.out GI.out) hb8, DI.out.next hb8 hgw, by rw [Hid, rawM_one]; exact hown8, HM.out.snoc hql hq.out.2.1, fun b hb => by rcases hb with hb | hb; exact HS.out b hb; exact Nat.le_trans G.out.size hb.1⟩
          case measure => have := Hlt.out; simp [intOf]; omega
    · obtain rfl : i = n := by omega
      have hlt : ¬ i < i := by omega
      have hV : IsM wo (New w.heap.size wo) _ (rawM M) := OwnS.isS IsV.stb (T := New w.heap.size wo) Own.out (fun b hb => ⟨HS.out b hb, by obtain ⟨_, _, _, _, h4⟩ := Own.out; exact (h4 b hb).1⟩) (fun b h1 h2 => ⟨h1, h2⟩)
      have HV := Lib.hid hV
      clear hV
      go_wp2_with fail
      go_ret
      exact ⟨⟨_, _, rfl, HV.out, M, rfl, HM.out⟩, D.out, G.out⟩
theorem dotQ_little {a b : List Rat} {k : Nat} (hl : a.length ≤ 5) (ha : ∀ q ∈ a, Sz q k) (hb : ∀ q ∈ b, Sz q k) (hk : k ≤ 90) : Sz (dotQ a b) 1024 := by
  refine (sumP_sz (n := k) fun p hp => ⟨ha _ (List.of_mem_zip hp).1, hb _ (List.of_mem_zip hp).2⟩).le ?_
  have h1 : (a.zip b).length ≤ 5 := by rw [List.length_zip]; omega
  have h2 := Nat.mul_le_mul h1 (show 2 * k + 1 ≤ 181 by omega)
  omega
theorem bothE_raw {a b : List Rat} (ha : a.length ≤ 40) (hl : a.length = b.length) (sa : ∀ q ∈ a, Sz q 1024) (sb : ∀ q ∈ b, Sz q 1024) : bothE (rawV a) (rawV b) = 0 := by
  unfold bothE
  have e1 : chkV (rawV a) = 0 := chkV_raw ha sa
  have e2 : chkV (rawV b) = 0 := chkV_raw (by omega) sb
  rw [if_neg (by rw [e1]; simp), if_neg (by rw [e2]; simp), if_neg (by rw [zbi, zbi]; simpa using hl)]
theorem vDot_q {w : World} {va vb : Value} {a b : List Rat} {d : Rat} (ha : IsV w (Old w) va (rawV a)) (hb : IsV w (Old w) vb (rawV b)) (hB : Bru w) (hla : a.length ≤ 40) (hlb : a.length = b.length) (sa : ∀ q ∈ a, Sz q 1024) (sb : ∀ q ∈ b, Sz q 1024) (hd : d = dotQ a b) (sd : Sz d 1024) :
    Calls Tryd.prog 38 #[va, vb] w fun e w' => (∃ v, e = .returned (.tuple #[v, .int .i64 0]) ∧ IsR w' (Old w') v (raw d)) ∧ Below w.heap.size w w' := by
  have h := vDot_good (M := a.length) ha hb hB (bothE_raw hla hlb sa sb) rfl hlb.symm hla sa sb hd
  rw [(gap_fits sd).1, (gap_fits sd).2] at h
  exact h
def zfa (M : List (List Rat)) (x : List Rat) : List Rat := M.map fun r => dotQ r x
theorem applyQ_len (M : List (List Rat)) (x : List Rat) : (zfa M x).length = M.length := List.length_map _
theorem applyQ_at {M : List (List Rat)} {x r : List Rat} {k : Nat} (h : M[k]? = some r) : (zfa M x)[k]? = some (dotQ r x) := by
  unfold zfa
  rw [List.getElem?_map, h]
  rfl
set_option maxRecDepth 100000 in
set_option maxHeartbeats 4000000 in
theorem vApply_good {w : World} {v vx : Value} {M : List (List Rat)} {x : List Rat} {n m : Nat} (h : IsM w (Old w) v (rawM M)) (hx : IsV w (Old w) vx (rawV x)) (hB : Bru w) (hn : M.length = n) (hrow : ∀ r ∈ M, r.length = m) (hn1 : 1 ≤ n) (hn9 : n ≤ 40) (hm9 : m ≤ 40) (hxl : x.length = m) (hf : chkM (rawM M) = 0) (hfx : chkV (rawV x) = 0) (hs : ∀ r ∈ M, ∀ q ∈ r, Sz q 1024) (hsx : ∀ q ∈ x, Sz q 1024) (hfit : ∀ q ∈ zfa M x, Sz q 1024) :
    Calls Tryd.prog 28 #[v, vx] w fun e w' => (∃ v', e = .returned (.tuple #[v', .int .i64 0]) ∧ IsV w' (Old w') v' (rawV (zfa M x))) ∧ Below w.heap.size w w' := by
  have HM := Lib.hid h
  have HX := Lib.hid hx
  have HF := Lib.hid hf
  have HFX := Lib.hid hfx
  have HB := Lib.hid hB
  have Hs := Lib.hid hs
  have Hsx := Lib.hid hsx
  have Hrow := Lib.hid hrow
  have Hfit := Lib.hid hfit
  have Hn := Lib.hid hn
  have Hxl := Lib.hid hxl
  have hcol := Lib.hid (col_head hn hn1 hrow)
  obtain ⟨A, cA, rfl, _⟩ := zca h
  obtain ⟨X, cX, rfl, _⟩ := zcm hx
  have eln : (rawM M).length = n := by rw [zbs]; exact hn
  have elx : (rawV x).length = m := by rw [zbi]; exact hxl
  rw [eln] at HM
  rw [elx] at HX
  rw [eln, elx]
  clear h hx hf hfx hB hs hsx hrow hfit hn hxl eln elx
  go_enter Tryd.func28, Tryd.ntmps28
  go_wp2_with fail
  refine (form_l HM.out HB.out).mono ?_
  rw [HF.out]
  rintro e w1 ⟨rfl, hb1⟩
  have HB1 := Lib.hid hb1
  clear hb1
  go_wp2_with fail
  refine (vcheck_l (IsV.stb.next HX.out HB1.out) (Bru.next HB.out HB1.out)).mono ?_
  rw [HFX.out]
  rintro e w2 ⟨rfl, hb2⟩
  have HB2 := Lib.hid (zaa HB1.out hb2)
  have hn0 : (0 : Int) < (n : Int) := by omega
  clear hb2
  go_wp2_with fail
  refine (zfr (IsM.stb.next HM.out HB2.out)).mono ?_
  rw [hcol.out]
  rintro e w2' ⟨rfl, rfl⟩
  go_wp2_with (at_make; refine zdl elR rfl _ _ rfl IsR n rfl rfl rfl (by omega) (base := w2.heap.size) (S := fun _ => False) (Nat.le_refl _) (fun b h => h.elim) ?_; intro v3 w3 hown3 hb3 hz3)
  have HB3 := Lib.hid (zaa HB2.out hb3)
  have Hown3 := Lib.hid hown3
  have Hz3 : Hid (w2.heap.size ≤ w3.heap.size) := hz3
  clear hb3 hown3 hz3 hn0
  go_loopw [36, 8, 10] (fun i ov _ wr => ∃ (k : Nat) (S : Nat → Prop), k ≤ n ∧ i = .int .i64 (k : Int) ∧ Below w.heap.size w wr ∧ Hid (OwnS 3 50 IsR wr w2.heap.size S ov (rawV ((zfa M x).take k))) ∧ Hid (∀ b, S b → w2.heap.size ≤ b) ∧ Hid (w2.heap.size ≤ wr.heap.size)) (fun i _ _ _ => n - (intOf i).toNat)
  case atStart => exact ⟨0, fun _ => False, Nat.zero_le _, rfl, HB3.out, by simpa [rawV, Hid] using Hown3.out, fun b hb => hb.elim, Hz3.out⟩
  case round =>
    obtain ⟨k, S, hk, rfl, hbw, hrel, hS, hzw⟩ := hrel
    have Hbw := Lib.hid hbw
    have Hown := Lib.hid hrel.out
    have HS1 := Lib.hid hS.out
    have hszw := hbw.size
    clear hrel hS
    rcases Nat.lt_or_ge k n with hlt | hge
    · obtain ⟨r, hr, hrr⟩ := zeg (m := M) (j := k) (by rw [Hn.out]; exact hlt)
      obtain ⟨b1, o1, R, cR, rfl, hSb1, helr, c0⟩ := zcr HM.out hrr
      have elr : (rawV r).length = m := by rw [zbi]; exact Hrow.out r (List.mem_of_getElem? hr)
      rw [elr] at c0 helr
      replace c0 := hbw.cell (p := ⟨b1, o1 + k, none⟩) hSb1 |>.trans c0
      have Vr := Lib.hid (IsV.stb.to helr (zba hbw))
      have Vx := Lib.hid (IsV.stb.next HX.out hbw)
      have HR := Lib.hid (List.mem_of_getElem? hr)
      have Hend : Hid ((zfa M x)[k]? = some (dotQ r x)) := applyQ_at hr
      have hk0 : (0 : Int) ≤ (k : Int) := by omega
      have hk1 : (k : Int) < (n : Int) := by omega
      have Hhlt := Lib.hid hlt
      clear hr hrr helr elr hbw hSb1 hlt
      go_wp2_with fail
      refine (vdot_q (M := m) Vr.out Vx.out (Bru.next HB.out Hbw.out) (Hrow.out r HR.out) Hxl.out hm9 (Hs.out r HR.out) Hsx.out).mono ?_
      rintro e w5 ⟨⟨v5, rfl, hv5⟩, hb5⟩
      obtain ⟨s5, P5, k5, O5, l5, rfl, _, _, _⟩ := zam hv5
      have hown5 := OwnS.step IsR.stb (T := fun b => S b ∨ (wr.heap.size ≤ b ∧ b < w5.heap.size)) Hown.out hb5 (fun b h => .inl h) (fun b h => h)
      have hel5 := IsQ.stb.to hv5 (zay (T := fun b => S b ∨ (wr.heap.size ≤ b ∧ b < w5.heap.size)) fun b h => .inr h)
      have HB5 := Lib.hid (zaa Hbw.out hb5)
      have hbase : w2.heap.size ≤ w5.heap.size := Nat.le_trans hzw.out hb5.size
      have hlt := Hhlt.out
      clear hb5 hv5 c0
      go_wp2_with (at_builtin; refine zcp elR rfl _ _ rfl IsR.stb rfl rfl rfl hown5 hel5 rfl (by intro u hu; simp [Value.cells] at hu; rcases hu with rfl | rfl | rfl <;> rfl) (by have h1 := List.length_take_le k (zfa M x); rw [zbi]; omega) hbase ?_; intro v6 w6 hown6 hb6 hz6)
      go_roundw
      case rel =>
        refine ⟨k + 1, fun b => S b ∨ (wr.heap.size ≤ b ∧ b < w5.heap.size), hlt, by go_num, HB5.out.trans (hb6.mono HB2.out.size), ?_, fun b hb => by rcases hb with hb | hb; exact HS1.out b hb; exact Nat.le_trans hzw.out hb.1, by rw [Hid]; omega⟩
        rw [zda Hend.out, zem]
        exact hown6
      case measure => simp [intOf]; omega
    · obtain rfl : k = n := by omega
      have e : (zfa M x).take k = zfa M x := List.take_of_length_le (by rw [applyQ_len, Hn.out]; exact Nat.le_refl _)
      rw [e] at Hown
      have hV : IsV wr (Old wr) _ (rawV (zfa M x)) := OwnS.isS IsR.stb (T := Old wr) Hown.out (fun b hb => by obtain ⟨_, _, _, _, h4⟩ := Hown.out; exact (h4 b hb).1) (fun b h1 h2 => h2)
      have HVV := Lib.hid hV
      clear hV e hbw
      go_wp2_with fail
      refine (bounded_l HVV.out).mono ?_
      rw [bndV_ok Hfit.out]
      rintro e w9 ⟨rfl, hb9⟩
      have HB9 := Lib.hid (zaa Hbw.out hb9)
      have V9 := Lib.hid (IsV.stb.next HVV.out hb9)
      clear hb9
      go_wp2_with fail
      go_ret2
      exact ⟨⟨_, rfl, V9.out⟩, HB9.out⟩
end Go.Proofs.YtjkgdggkgljdoaaDoor
