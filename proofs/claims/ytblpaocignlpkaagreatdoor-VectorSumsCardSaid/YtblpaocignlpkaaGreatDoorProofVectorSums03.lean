/-
  Contracts of the reference's functions on rational numbers: Lowest, Minus, Plus, Times, Order, Zero.
-/
import Derived.Test.YtblpaocignlpkaaGreatDoorVect07
import Derived.Test.YtblpaocignlpkaaGreatDoorProofVectorSums01
import Derived.Test.YtblpaocignlpkaaGreatDoorProofVectorSums02
import Derived.Test.YtblpaocignlpkaaGreatDoorVect11
import Derived.Test.YtblpaocignlpkaaGreatDoorVect02
namespace Go.Proofs.YtblpaocignlpkaaGreatDoor
open Go.RowKit
set_option linter.unusedVariables false
theorem lit_one (w : World) : NumS (w.alloc (.cells #[.int .u32 1] 103)) (New w.heap.size (w.alloc (.cells #[.int .u32 1] 103))) (.slice (some ⟨w.heap.size, 0, none⟩) 1 1) 1 := by
  have h := isL_new .u32 w 103 [1] (by unfold maxLen; decide)
  unfold NumS
  rw [zdg]
  exact IsL.isK h fun b h1 h2 => ⟨h1, by rw [World.size_alloc]; exact h2⟩
set_option maxHeartbeats 1000000 in
theorem lowest_q {w : World} {va vb : Value} {n d : Nat} {neg : Bool} {q : Rat} (ha : IsN w 0 w.heap.size va n) (hb : IsN w 0 w.heap.size vb d) (hd0 : d ≠ 0) (hn : (lim n).length ≤ 2000000) (hd : (lim d).length ≤ 2000000) (hq : q = mkRat (sg neg n) d) : Calls Tryz.prog 96 #[.bool neg, va, vb] w (RetQ w q) := by
  have Ha := Lib.hid ha
  have Hb := Lib.hid hb
  have Hn := Lib.hid hn
  have Hd := Lib.hid hd
  obtain ⟨A, cA, rfl, _, _, _⟩ := ha
  obtain ⟨B, cB, rfl, _, _, _⟩ := hb
  clear hn hd
  obtain ⟨w0, hw0, hb0, rZ, Hz⟩ := zbp w #[.bool false, .slice none 0 0, .slice none 0 0] 31
  have Z_0 := Lib.hid (rZ)
  have bw_0 := Lib.hid (hb0)
  have sz_0 : Hid (w.heap.size + 1 ≤ w0.heap.size) := Lib.hid (Nat.le_of_eq Hz.out.symm)
  clear rZ hb0
  obtain ⟨cZ0_1, cZ1_1, cZ2_1⟩ := zac Z_0.out
  obtain ⟨fZ0_1, fZ1_1, fZ2_1⟩ := zaq Z_0.out
  have A_0 := Lib.hid (IsN.next Ha.out bw_0.out)
  have D_0 := Lib.hid (IsN.next Hb.out bw_0.out)
  by_cases h0 : n = 0
  · have e0 := zfi h0
    have Hq : Hid (q = 0) := by rw [Hid, hq, h0, sg_zero, Rat.zero_mkRat]
    clear h0 hq
    obtain ⟨d0, d1, d2⟩ := zac (Row.alloc Z_0.out (.cells #[.int .u32 1] 103))
    obtain ⟨d3, d4, d5⟩ := zaq (Row.alloc Z_0.out (.cells #[.int .u32 1] 103))
    go_enter Tryz.func96, Tryz.ntmps96
    go_wp2_with fail
    rw [Hq.out]
    refine zbc Tryz.results96 rfl rfl (Row.put3 (Row.alloc Z_0.out _) _ _ _) (retQ (n := 0) (d := 1) (by rw [raw_zero, zbb, zdg]) (below_stepA bw_0.out _) (Nat.le_refl _) (numS_zero (S := New (w.heap.size + 1) _)) (lit_one w0) (by omega) (by have := Hz.out; omega))
  · have e0 := zdn h0
    obtain ⟨G, hG⟩ : ∃ G, G = Nat.gcd n d := ⟨_, rfl⟩
    have Hr : Hid (raw q = ⟨neg, lim (n / G), lim (d / G)⟩) := by rw [Hid, hq, hG]; exact raw_ratio h0 hd0
    have HGp : Hid (0 < G) := by rw [Hid, hG]; exact Nat.gcd_pos_of_pos_right _ (by omega)
    have HG := Lib.hid hG
    clear h0 hG hq
    go_enter Tryz.func96, Tryz.ntmps96
    go_wp2_with fail
    clear hw0
    refine ((show Calls Tryz.prog 144 #[.slice A (lim n).length cA, .slice B (lim d).length cB] w0 (fun e w' => (∃ v, e = .returned v ∧ IsN w' 0 w'.heap.size v G) ∧ Below w0.heap.size w0 w') from by rw [HG.out]; exact rcommon_n A_0.out D_0.out (Nat.le_trans Hn.out (by omega)) (Nat.le_trans Hd.out (by omega)))).mono ?_
    rintro e w1 ⟨⟨v1, rfl, hv⟩, hb⟩
    have newG := Lib.hid (hv)
    have Z_1 := Lib.hid (Row.next Z_0.out (hb))
    have bw_1 := Lib.hid (zaa bw_0.out (hb))
    have sz_1 := Lib.hid (zae sz_0.out (hb))
    have A_1 := Lib.hid (IsN.next A_0.out (hb))
    have D_1 := Lib.hid (IsN.next D_0.out (hb))
    clear Z_0 bw_0 sz_0 A_0 D_0
    have G_0 := newG
    clear newG
    obtain ⟨P1, k1, rfl, _, _, _⟩ := id hv
    clear cZ0_1 cZ1_1 cZ2_1 fZ0_1 fZ1_1 fZ2_1
    obtain ⟨cZ0_2, cZ1_2, cZ2_2⟩ := zac Z_1.out
    obtain ⟨fZ0_2, fZ1_2, fZ2_2⟩ := zaq Z_1.out
    go_wp2_with fail
    refine (rover_f A_1.out G_0.out HGp.out (Nat.le_trans Hn.out (by omega))).mono ?_
    rintro e w2 ⟨⟨v2, v2r, rfl, hv2, _⟩, hb⟩
    have newN := Lib.hid (zay hv2 sz_1.out)
    have Z_2 := Lib.hid (Row.next Z_1.out (hb))
    have bw_2 := Lib.hid (zaa bw_1.out (hb))
    have sz_2 := Lib.hid (zae sz_1.out (hb))
    have A_2 := Lib.hid (IsN.next A_1.out (hb))
    have D_2 := Lib.hid (IsN.next D_1.out (hb))
    have G_1 := Lib.hid (IsN.next G_0.out (hb))
    clear Z_1 bw_1 sz_1 A_1 D_1 G_0
    have N_0 := newN
    clear newN
    obtain ⟨P2, k2, rfl, _, _, _⟩ := id hv2
    clear cZ0_2 cZ1_2 cZ2_2 fZ0_2 fZ1_2 fZ2_2
    obtain ⟨cZ0_3, cZ1_3, cZ2_3⟩ := zac Z_2.out
    obtain ⟨fZ0_3, fZ1_3, fZ2_3⟩ := zaq Z_2.out
    go_wp2_with fail
    refine (rover_f D_2.out G_1.out HGp.out (Nat.le_trans Hd.out (by omega))).mono ?_
    rintro e w3 ⟨⟨v3, v3r, rfl, hv3, _⟩, hb⟩
    have newE := Lib.hid (zay hv3 sz_2.out)
    have Z_3 := Lib.hid (Row.next Z_2.out (hb))
    have bw_3 := Lib.hid (zaa bw_2.out (hb))
    have sz_3 := Lib.hid (zae sz_2.out (hb))
    have A_3 := Lib.hid (IsN.next A_2.out (hb))
    have D_3 := Lib.hid (IsN.next D_2.out (hb))
    have G_2 := Lib.hid (IsN.next G_1.out (hb))
    have N_1 := Lib.hid (IsK.stb.fresh N_0.out (hb))
    clear Z_2 bw_2 sz_2 A_2 D_2 G_1 N_0
    have E_0 := newE
    clear newE
    obtain ⟨P3, k3, rfl, _, _, _⟩ := id hv3
    clear cZ0_3 cZ1_3 cZ2_3 fZ0_3 fZ1_3 fZ2_3
    obtain ⟨cZ0_4, cZ1_4, cZ2_4⟩ := zac Z_3.out
    obtain ⟨fZ0_4, fZ1_4, fZ2_4⟩ := zaq Z_3.out
    go_wp2_with fail
    refine zbc Tryz.results96 rfl rfl (Row.put3 Z_3.out _ _ _) (retQ Hr.out bw_3.out (by omega) N_1.out E_0.out (by omega) (by omega))
set_option maxRecDepth 100000 in
set_option maxHeartbeats 1000000 in
theorem rmulq {w : World} {va vb : Value} {qa qb qc : Rat} (ha : IsQ w (Old w) va qa) (hb : IsQ w (Old w) vb qb) (hsa : Sz qa 100000) (hsb : Sz qb 100000) (hc : qc = qa * qb) : Calls Tryz.prog 43 #[va, vb] w (RetQ w qc) := by
  have HQa := Lib.hid ha
  obtain ⟨nega, Aa, cAa, Ba, cBa, rfl, Hnega, Hna, Hda⟩ := zaj ha
  have HQb := Lib.hid hb
  obtain ⟨negb, Ab, cAb, Bb, cBb, rfl, Hnegb, Hnb, Hdb⟩ := zaj hb
  obtain ⟨ng, hng⟩ : ∃ ng : Bool, (!(nega == negb)) = ng := ⟨_, rfl⟩
  obtain ⟨x, hx⟩ : ∃ x, x = qa.num.natAbs * qb.num.natAbs := ⟨_, rfl⟩
  obtain ⟨d, hd⟩ : ∃ d, d = qa.den * qb.den := ⟨_, rfl⟩
  have Hq : Hid (qc = mkRat (sg ng x) d) := by rw [Hid, hc, ← hng, hx, hd]; exact (times_over Hnega.out Hnegb.out).symm
  have Hx := Lib.hid hx
  have Hdd := Lib.hid hd
  have Hd0 : Hid (d ≠ 0) := by rw [Hid, hd]; exact Nat.mul_ne_zero qa.den_nz qb.den_nz
  have Lx : Hid ((lim x).length ≤ 2000000) := by rw [Hid, hx]; exact Nat.le_trans (zel hsa.1 hsb.1) (by omega)
  have Ld : Hid ((lim d).length ≤ 2000000) := by rw [Hid, hd]; exact Nat.le_trans (zel hsa.2 hsb.2) (by omega)
  have Hsa := Lib.hid hsa
  have Hsb := Lib.hid hsb
  clear ha hb hc hsa hsb hx hd
  obtain ⟨w0, hw0, hb0, ra, rb, rZ, Hz⟩ := zfe w #[.bool nega, .slice Aa (lim qa.num.natAbs).length cAa, .slice Ba (lim qa.den).length cBa] #[.bool negb, .slice Ab (lim qb.num.natAbs).length cAb, .slice Bb (lim qb.den).length cBb] #[.bool false, .slice none 0 0, .slice none 0 0] 31 31 31
  have Qa_0 := Lib.hid (IsQ.stb.next HQa.out hb0)
  have Ra_0 := Lib.hid (ra)
  have Qb_0 := Lib.hid (IsQ.stb.next HQb.out hb0)
  have Rb_0 := Lib.hid (rb)
  have Z_0 := Lib.hid (rZ)
  have bw_0 := Lib.hid (hb0)
  have sz_0 : Hid (w.heap.size + 3 ≤ w0.heap.size) := Lib.hid (Nat.le_of_eq Hz.out.symm)
  clear ra rb rZ hb0
  obtain ⟨cRa0_1, cRa1_1, cRa2_1⟩ := zac Ra_0.out
  obtain ⟨cRb0_2, cRb1_2, cRb2_2⟩ := zac Rb_0.out
  obtain ⟨cZ0_3, cZ1_3, cZ2_3⟩ := zac Z_0.out
  obtain ⟨fZ0_3, fZ1_3, fZ2_3⟩ := zaq Z_0.out
  go_enter Tryz.func43, Tryz.ntmps43
  go_wp2_with fail
  clear hw0
  have Qa_1 := Lib.hid (IsQ.stb.next Qa_0.out (zab _))
  have Ra_1 := Lib.hid (Row.next Ra_0.out (zab _))
  have Qb_1 := Lib.hid (IsQ.stb.next Qb_0.out (zab _))
  have Rb_1 := Lib.hid (Row.next Rb_0.out (zab _))
  have Z_1 := Lib.hid (Row.next Z_0.out (zab _))
  have bw_1 := Lib.hid (zaa bw_0.out (zab _))
  have sz_1 := Lib.hid (zae sz_0.out (zab _))
  clear Qa_0 Ra_0 Qb_0 Rb_0 Z_0 bw_0 sz_0
  go_region_held3 (fun w' => w'.cell? ⟨w.heap.size, 0, none⟩ = some (.bool nega) ∧ w'.cell? ⟨w.heap.size, 1, none⟩ = some (.slice Aa (lim qa.num.natAbs).length cAa) ∧ w'.cell? ⟨w.heap.size, 2, none⟩ = some (.slice Ba (lim qa.den).length cBa) ∧ w'.cell? ⟨w.heap.size + 1, 0, none⟩ = some (.bool negb) ∧ w'.cell? ⟨w.heap.size + 1, 1, none⟩ = some (.slice Ab (lim qb.num.natAbs).length cAb) ∧ w'.cell? ⟨w.heap.size + 1, 2, none⟩ = some (.slice Bb (lim qb.den).length cBb))
    (first
      | exact ⟨cRa0_1, cRa1_1, cRa2_1, cRb0_2, cRb1_2, cRb2_2⟩
      | exact ⟨cRa0_4, cRa1_4, cRa2_4, cRb0_5, cRb1_5, cRb2_5⟩
      | exact ⟨cRa0_7, cRa1_7, cRa2_7, cRb0_8, cRb1_8, cRb2_8⟩
      | exact ⟨cRa0_10, cRa1_10, cRa2_10, cRb0_11, cRb1_11, cRb2_11⟩
      | exact ⟨zau cRa0_10 (by omega), zau cRa1_10 (by omega), zau cRa2_10 (by omega), zau cRb0_11 (by omega), zau cRb1_11 (by omega), zau cRb2_11 (by omega)⟩)
    (first
      | (go_at_call 95; have hc := (show Calls Tryz.prog 95 #[.slice Aa (lim qa.num.natAbs).length cAa, .slice Ab (lim qb.num.natAbs).length cAb] (World.drew w0) (fun e w' => (∃ v, e = .returned v ∧ IsN w' (World.heap (World.drew w0)).size w'.heap.size v x) ∧ Below (World.heap (World.drew w0)).size (World.drew w0) w') from by rw [Hx.out]; exact zea (zag (zcq Qa_1.out)) (zag (zcq Qb_1.out)) (Nat.le_refl _) (Nat.le_refl _) (Nat.le_trans Hsa.out.1 (by omega)) (Nat.le_trans Hsb.out.1 (by omega))); (with_reducible refine hc.mono ?_); clear hc; rintro e w1 ⟨⟨v1, rfl, hv⟩, hb⟩; have newX := Lib.hid (zay hv sz_1.out); have Qa_2 := Lib.hid (IsQ.stb.next Qa_1.out (hb)); have Ra_2 := Lib.hid (Row.next Ra_1.out (hb)); have Qb_2 := Lib.hid (IsQ.stb.next Qb_1.out (hb)); have Rb_2 := Lib.hid (Row.next Rb_1.out (hb)); have Z_2 := Lib.hid (Row.next Z_1.out (hb)); have bw_2 := Lib.hid (zaa bw_1.out (hb)); have sz_2 := Lib.hid (zae sz_1.out (hb)); clear Qa_1 Ra_1 Qb_1 Rb_1 Z_1 bw_1 sz_1; have X_0 := newX; clear newX; obtain ⟨P1, k1, rfl, _, _, _⟩ := id hv; clear cRa0_1 cRa1_1 cRa2_1 cRb0_2 cRb1_2 cRb2_2 cZ0_3 cZ1_3 cZ2_3 fZ0_3 fZ1_3 fZ2_3; obtain ⟨cRa0_4, cRa1_4, cRa2_4⟩ := zac Ra_2.out; obtain ⟨cRb0_5, cRb1_5, cRb2_5⟩ := zac Rb_2.out; obtain ⟨cZ0_6, cZ1_6, cZ2_6⟩ := zac Z_2.out; obtain ⟨fZ0_6, fZ1_6, fZ2_6⟩ := zaq Z_2.out)
      | (go_at_call 95; have hc := (show Calls Tryz.prog 95 #[.slice Ba (lim qa.den).length cBa, .slice Bb (lim qb.den).length cBb] w1 (fun e w' => (∃ v, e = .returned v ∧ IsN w' (World.heap w1).size w'.heap.size v d) ∧ Below (World.heap w1).size w1 w') from by rw [Hdd.out]; exact zea (zag (zch Qa_2.out)) (zag (zch Qb_2.out)) (Nat.le_refl _) (Nat.le_refl _) (Nat.le_trans Hsa.out.2 (by omega)) (Nat.le_trans Hsb.out.2 (by omega))); (with_reducible refine hc.mono ?_); clear hc; rintro e w2 ⟨⟨v2, rfl, hv2⟩, hb⟩; have newD := Lib.hid (zay hv2 sz_2.out); have Qa_3 := Lib.hid (IsQ.stb.next Qa_2.out (hb)); have Ra_3 := Lib.hid (Row.next Ra_2.out (hb)); have Qb_3 := Lib.hid (IsQ.stb.next Qb_2.out (hb)); have Rb_3 := Lib.hid (Row.next Rb_2.out (hb)); have Z_3 := Lib.hid (Row.next Z_2.out (hb)); have bw_3 := Lib.hid (zaa bw_2.out (hb)); have sz_3 := Lib.hid (zae sz_2.out (hb)); have X_1 := Lib.hid (IsK.stb.fresh X_0.out (hb)); clear Qa_2 Ra_2 Qb_2 Rb_2 Z_2 bw_2 sz_2 X_0; have D_0 := newD; clear newD; obtain ⟨P2, k2, rfl, _, _, _⟩ := id hv2; clear cRa0_4 cRa1_4 cRa2_4 cRb0_5 cRb1_5 cRb2_5 cZ0_6 cZ1_6 cZ2_6 fZ0_6 fZ1_6 fZ2_6; obtain ⟨cRa0_7, cRa1_7, cRa2_7⟩ := zac Ra_3.out; obtain ⟨cRb0_8, cRb1_8, cRb2_8⟩ := zac Rb_3.out; obtain ⟨cZ0_9, cZ1_9, cZ2_9⟩ := zac Z_3.out; obtain ⟨fZ0_9, fZ1_9, fZ2_9⟩ := zaq Z_3.out)
      | (go_at_call 96; have hc := lowest_q (neg := ng) (zag (IsK.stb.old X_1.out)) (zag (IsK.stb.old D_0.out)) Hd0.out Lx.out Ld.out Hq.out; (with_reducible refine hc.mono ?_); clear hc; rintro e w3 ⟨⟨v3, rfl, hv3⟩, hb⟩; have newV := Lib.hid (IsQ.stb.le hv3 sz_3.out); have Qa_4 := Lib.hid (IsQ.stb.next Qa_3.out (hb)); have Ra_4 := Lib.hid (Row.next Ra_3.out (hb)); have Qb_4 := Lib.hid (IsQ.stb.next Qb_3.out (hb)); have Rb_4 := Lib.hid (Row.next Rb_3.out (hb)); have Z_4 := Lib.hid (Row.next Z_3.out (hb)); have bw_4 := Lib.hid (zaa bw_3.out (hb)); have sz_4 := Lib.hid (zae sz_3.out (hb)); have X_2 := Lib.hid (IsK.stb.fresh X_1.out (hb)); have D_1 := Lib.hid (IsK.stb.fresh D_0.out (hb)); clear Qa_3 Ra_3 Qb_3 Rb_3 Z_3 bw_3 sz_3 X_1 D_0; have V_0 := newV; clear newV; obtain ⟨s3, P3, k3, O3, l3, rfl, _, _, _⟩ := zaj hv3; clear cRa0_7 cRa1_7 cRa2_7 cRb0_8 cRb1_8 cRb2_8 cZ0_9 cZ1_9 cZ2_9 fZ0_9 fZ1_9 fZ2_9; obtain ⟨cRa0_10, cRa1_10, cRa2_10⟩ := zac Ra_4.out; obtain ⟨cRb0_11, cRb1_11, cRb2_11⟩ := zac Rb_4.out; obtain ⟨cZ0_12, cZ1_12, cZ2_12⟩ := zac Z_4.out; obtain ⟨fZ0_12, fZ1_12, fZ2_12⟩ := zaq Z_4.out))
  go_wp2_with fail
  refine zbc Tryz.results43 rfl rfl (Row.put3 Z_4.out _ _ _) (zei V_0.out bw_4.out (by omega) (by omega))
set_option maxRecDepth 100000 in
set_option maxHeartbeats 2000000 in
theorem raddq {w : World} {va vb : Value} {qa qb qc : Rat} (ha : IsQ w (Old w) va qa) (hb : IsQ w (Old w) vb qb) (hsa : Sz qa 100000) (hsb : Sz qb 100000) (hc : qc = qa + qb) : Calls Tryz.prog 42 #[va, vb] w (RetQ w qc) := by
  have HQa := Lib.hid ha
  obtain ⟨nega, Aa, cAa, Ba, cBa, rfl, Hnega, Hna, Hda⟩ := zaj ha
  have HQb := Lib.hid hb
  obtain ⟨negb, Ab, cAb, Bb, cBb, rfl, Hnegb, Hnb, Hdb⟩ := zaj hb
  obtain ⟨x, hx⟩ : ∃ x, x = qa.num.natAbs * qb.den := ⟨_, rfl⟩
  obtain ⟨y, hy⟩ : ∃ y, y = qb.num.natAbs * qa.den := ⟨_, rfl⟩
  obtain ⟨d, hd⟩ : ∃ d, d = qa.den * qb.den := ⟨_, rfl⟩
  have Hov : Hid (∀ (neg : Bool) (n : Nat), sg neg n = sg nega x + sg negb y → qc = mkRat (sg neg n) d) := fun neg n h => by rw [hc, hd]; exact (plus_over Hnega.out Hnegb.out (by rw [h, hx, hy])).symm
  have Hx := Lib.hid hx
  have Hy := Lib.hid hy
  have Hdd := Lib.hid hd
  have Hd0 : Hid (d ≠ 0) := by rw [Hid, hd]; exact Nat.mul_ne_zero qa.den_nz qb.den_nz
  have Lx : Hid ((lim x).length ≤ 200000) := by rw [Hid, hx]; exact zel hsa.1 hsb.2
  have Ly : Hid ((lim y).length ≤ 200000) := by rw [Hid, hy]; exact zel hsb.1 hsa.2
  have Ld : Hid ((lim d).length ≤ 2000000) := by rw [Hid, hd]; exact Nat.le_trans (zel hsa.2 hsb.2) (by omega)
  have Hsa := Lib.hid hsa
  have Hsb := Lib.hid hsb
  clear ha hb hc hsa hsb hx hy hd
  obtain ⟨w0, hw0, hb0, ra, rb, rZ, Hz⟩ := zfe w #[.bool nega, .slice Aa (lim qa.num.natAbs).length cAa, .slice Ba (lim qa.den).length cBa] #[.bool negb, .slice Ab (lim qb.num.natAbs).length cAb, .slice Bb (lim qb.den).length cBb] #[.bool false, .slice none 0 0, .slice none 0 0] 31 31 31
  have Qa_0 := Lib.hid (IsQ.stb.next HQa.out hb0)
  have Ra_0 := Lib.hid (ra)
  have Qb_0 := Lib.hid (IsQ.stb.next HQb.out hb0)
  have Rb_0 := Lib.hid (rb)
  have Z_0 := Lib.hid (rZ)
  have bw_0 := Lib.hid (hb0)
  have sz_0 : Hid (w.heap.size + 3 ≤ w0.heap.size) := Lib.hid (Nat.le_of_eq Hz.out.symm)
  clear ra rb rZ hb0
  obtain ⟨cRa0_1, cRa1_1, cRa2_1⟩ := zac Ra_0.out
  obtain ⟨cRb0_2, cRb1_2, cRb2_2⟩ := zac Rb_0.out
  obtain ⟨cZ0_3, cZ1_3, cZ2_3⟩ := zac Z_0.out
  obtain ⟨fZ0_3, fZ1_3, fZ2_3⟩ := zaq Z_0.out
  go_enter Tryz.func42, Tryz.ntmps42
  go_wp2_with fail
  clear hw0
  have Qa_1 := Lib.hid (IsQ.stb.next Qa_0.out (zab _))
  have Ra_1 := Lib.hid (Row.next Ra_0.out (zab _))
  have Qb_1 := Lib.hid (IsQ.stb.next Qb_0.out (zab _))
  have Rb_1 := Lib.hid (Row.next Rb_0.out (zab _))
  have Z_1 := Lib.hid (Row.next Z_0.out (zab _))
  have bw_1 := Lib.hid (zaa bw_0.out (zab _))
  have sz_1 := Lib.hid (zae sz_0.out (zab _))
  clear Qa_0 Ra_0 Qb_0 Rb_0 Z_0 bw_0 sz_0
  go_region_held3 (fun w' => w'.cell? ⟨w.heap.size, 1, none⟩ = some (.slice Aa (lim qa.num.natAbs).length cAa) ∧ w'.cell? ⟨w.heap.size, 2, none⟩ = some (.slice Ba (lim qa.den).length cBa) ∧ w'.cell? ⟨w.heap.size + 1, 1, none⟩ = some (.slice Ab (lim qb.num.natAbs).length cAb) ∧ w'.cell? ⟨w.heap.size + 1, 2, none⟩ = some (.slice Bb (lim qb.den).length cBb))
    (first
      | exact ⟨cRa1_1, cRa2_1, cRb1_2, cRb2_2⟩
      | exact ⟨cRa1_4, cRa2_4, cRb1_5, cRb2_5⟩
      | exact ⟨cRa1_7, cRa2_7, cRb1_8, cRb2_8⟩
      | exact ⟨cRa1_10, cRa2_10, cRb1_11, cRb2_11⟩)
    (first
      | (go_at_call 95; have hc := (show Calls Tryz.prog 95 #[.slice Aa (lim qa.num.natAbs).length cAa, .slice Bb (lim qb.den).length cBb] (World.drew w0) (fun e w' => (∃ v, e = .returned v ∧ IsN w' (World.heap (World.drew w0)).size w'.heap.size v x) ∧ Below (World.heap (World.drew w0)).size (World.drew w0) w') from by rw [Hx.out]; exact zea (zag (zcq Qa_1.out)) (zag (zch Qb_1.out)) (Nat.le_refl _) (Nat.le_refl _) (Nat.le_trans Hsa.out.1 (by omega)) (Nat.le_trans Hsb.out.2 (by omega))); (with_reducible refine hc.mono ?_); clear hc; rintro e w1 ⟨⟨v1, rfl, hv⟩, hb⟩; have newX := Lib.hid (zay hv sz_1.out); have Qa_2 := Lib.hid (IsQ.stb.next Qa_1.out (hb)); have Ra_2 := Lib.hid (Row.next Ra_1.out (hb)); have Qb_2 := Lib.hid (IsQ.stb.next Qb_1.out (hb)); have Rb_2 := Lib.hid (Row.next Rb_1.out (hb)); have Z_2 := Lib.hid (Row.next Z_1.out (hb)); have bw_2 := Lib.hid (zaa bw_1.out (hb)); have sz_2 := Lib.hid (zae sz_1.out (hb)); clear Qa_1 Ra_1 Qb_1 Rb_1 Z_1 bw_1 sz_1; have X_0 := newX; clear newX; obtain ⟨P1, k1, rfl, _, _, _⟩ := id hv; clear cRa0_1 cRa1_1 cRa2_1 cRb0_2 cRb1_2 cRb2_2 cZ0_3 cZ1_3 cZ2_3 fZ0_3 fZ1_3 fZ2_3; obtain ⟨cRa0_4, cRa1_4, cRa2_4⟩ := zac Ra_2.out; obtain ⟨cRb0_5, cRb1_5, cRb2_5⟩ := zac Rb_2.out; obtain ⟨cZ0_6, cZ1_6, cZ2_6⟩ := zac Z_2.out; obtain ⟨fZ0_6, fZ1_6, fZ2_6⟩ := zaq Z_2.out)
      | (go_at_call 95; have hc := (show Calls Tryz.prog 95 #[.slice Ab (lim qb.num.natAbs).length cAb, .slice Ba (lim qa.den).length cBa] w1 (fun e w' => (∃ v, e = .returned v ∧ IsN w' (World.heap w1).size w'.heap.size v y) ∧ Below (World.heap w1).size w1 w') from by rw [Hy.out]; exact zea (zag (zcq Qb_2.out)) (zag (zch Qa_2.out)) (Nat.le_refl _) (Nat.le_refl _) (Nat.le_trans Hsb.out.1 (by omega)) (Nat.le_trans Hsa.out.2 (by omega))); (with_reducible refine hc.mono ?_); clear hc; rintro e w2 ⟨⟨v2, rfl, hv2⟩, hb⟩; have newY := Lib.hid (zay hv2 sz_2.out); have Qa_3 := Lib.hid (IsQ.stb.next Qa_2.out (hb)); have Ra_3 := Lib.hid (Row.next Ra_2.out (hb)); have Qb_3 := Lib.hid (IsQ.stb.next Qb_2.out (hb)); have Rb_3 := Lib.hid (Row.next Rb_2.out (hb)); have Z_3 := Lib.hid (Row.next Z_2.out (hb)); have bw_3 := Lib.hid (zaa bw_2.out (hb)); have sz_3 := Lib.hid (zae sz_2.out (hb)); have X_1 := Lib.hid (IsK.stb.fresh X_0.out (hb)); clear Qa_2 Ra_2 Qb_2 Rb_2 Z_2 bw_2 sz_2 X_0; have Y_0 := newY; clear newY; obtain ⟨P2, k2, rfl, _, _, _⟩ := id hv2; clear cRa0_4 cRa1_4 cRa2_4 cRb0_5 cRb1_5 cRb2_5 cZ0_6 cZ1_6 cZ2_6 fZ0_6 fZ1_6 fZ2_6; obtain ⟨cRa0_7, cRa1_7, cRa2_7⟩ := zac Ra_3.out; obtain ⟨cRb0_8, cRb1_8, cRb2_8⟩ := zac Rb_3.out; obtain ⟨cZ0_9, cZ1_9, cZ2_9⟩ := zac Z_3.out; obtain ⟨fZ0_9, fZ1_9, fZ2_9⟩ := zaq Z_3.out)
      | (go_at_call 95; have hc := (show Calls Tryz.prog 95 #[.slice Ba (lim qa.den).length cBa, .slice Bb (lim qb.den).length cBb] w2 (fun e w' => (∃ v, e = .returned v ∧ IsN w' (World.heap w2).size w'.heap.size v d) ∧ Below (World.heap w2).size w2 w') from by rw [Hdd.out]; exact zea (zag (zch Qa_3.out)) (zag (zch Qb_3.out)) (Nat.le_refl _) (Nat.le_refl _) (Nat.le_trans Hsa.out.2 (by omega)) (Nat.le_trans Hsb.out.2 (by omega))); (with_reducible refine hc.mono ?_); clear hc; rintro e w3 ⟨⟨v3, rfl, hv3⟩, hb⟩; have newD := Lib.hid (zay hv3 sz_3.out); have Qa_4 := Lib.hid (IsQ.stb.next Qa_3.out (hb)); have Ra_4 := Lib.hid (Row.next Ra_3.out (hb)); have Qb_4 := Lib.hid (IsQ.stb.next Qb_3.out (hb)); have Rb_4 := Lib.hid (Row.next Rb_3.out (hb)); have Z_4 := Lib.hid (Row.next Z_3.out (hb)); have bw_4 := Lib.hid (zaa bw_3.out (hb)); have sz_4 := Lib.hid (zae sz_3.out (hb)); have X_2 := Lib.hid (IsK.stb.fresh X_1.out (hb)); have Y_1 := Lib.hid (IsK.stb.fresh Y_0.out (hb)); clear Qa_3 Ra_3 Qb_3 Rb_3 Z_3 bw_3 sz_3 X_1 Y_0; have D_0 := newD; clear newD; obtain ⟨P3, k3, rfl, _, _, _⟩ := id hv3; clear cRa0_7 cRa1_7 cRa2_7 cRb0_8 cRb1_8 cRb2_8 cZ0_9 cZ1_9 cZ2_9 fZ0_9 fZ1_9 fZ2_9; obtain ⟨cRa0_10, cRa1_10, cRa2_10⟩ := zac Ra_4.out; obtain ⟨cRb0_11, cRb1_11, cRb2_11⟩ := zac Rb_4.out; obtain ⟨cZ0_12, cZ1_12, cZ2_12⟩ := zac Z_4.out; obtain ⟨fZ0_12, fZ1_12, fZ2_12⟩ := zaq Z_4.out))
  rcases (by cases nega <;> cases negb <;> simp : (nega == negb) = true ∨ (nega == negb) = false) with hs | hs
  · have Hs : Hid (negb = nega) := by unfold Hid; cases nega <;> cases negb <;> simp at hs ⊢
    obtain ⟨n, hn⟩ : ∃ n, n = x + y := ⟨_, rfl⟩
    have Hq : Hid (qc = mkRat (sg nega n) d) := Hov.out _ _ (by rw [Hs.out, hn, sg_add])
    have Hnl : Hid ((lim n).length ≤ 2000000) := by rw [Hid, hn]; exact Nat.le_trans (sz_add Lx.out Ly.out) (by omega)
    have Hn := Lib.hid hn
    clear hn
    go_wp2_with fail
    have Qa_5 := Lib.hid (IsQ.stb.next Qa_4.out (zab _))
    have Ra_5 := Lib.hid (Row.next Ra_4.out (zab _))
    have Qb_5 := Lib.hid (IsQ.stb.next Qb_4.out (zab _))
    have Rb_5 := Lib.hid (Row.next Rb_4.out (zab _))
    have Z_5 := Lib.hid (Row.next Z_4.out (zab _))
    have bw_5 := Lib.hid (zaa bw_4.out (zab _))
    have sz_5 := Lib.hid (zae sz_4.out (zab _))
    have X_3 := Lib.hid (IsK.stb.fresh X_2.out (zab _))
    have Y_2 := Lib.hid (IsK.stb.fresh Y_1.out (zab _))
    have D_1 := Lib.hid (IsK.stb.fresh D_0.out (zab _))
    clear Qa_4 Ra_4 Qb_4 Rb_4 Z_4 bw_4 sz_4 X_2 Y_1 D_0
    go_region_held3 (fun w' => w'.cell? ⟨w.heap.size, 0, none⟩ = some (.bool nega))
      (first
        | exact cRa0_10
        | exact cRa0_13
        | exact cRa0_16
        | exact zau cRa0_16 (by omega))
      (first
        | (go_at_call 97; have hc := (show Calls Tryz.prog 97 #[.slice P1 (lim x).length k1, .slice P2 (lim y).length k2] (World.drew w3) (fun e w' => (∃ v, e = .returned v ∧ IsN w' (World.heap (World.drew w3)).size w'.heap.size v n) ∧ Below (World.heap (World.drew w3)).size (World.drew w3) w') from by rw [Hn.out]; exact rplus_n (zag (IsK.stb.old X_3.out)) (zag (IsK.stb.old Y_2.out)) (Nat.le_refl _) (Nat.le_refl _) (Nat.le_trans Lx.out (by omega)) (Nat.le_trans Ly.out (by omega))); (with_reducible refine hc.mono ?_); clear hc; rintro e wp1 ⟨⟨v4, rfl, hv4⟩, hb⟩; have newN := Lib.hid (zay hv4 sz_5.out); have Qa_6 := Lib.hid (IsQ.stb.next Qa_5.out (hb)); have Ra_6 := Lib.hid (Row.next Ra_5.out (hb)); have Qb_6 := Lib.hid (IsQ.stb.next Qb_5.out (hb)); have Rb_6 := Lib.hid (Row.next Rb_5.out (hb)); have Z_6 := Lib.hid (Row.next Z_5.out (hb)); have bw_6 := Lib.hid (zaa bw_5.out (hb)); have sz_6 := Lib.hid (zae sz_5.out (hb)); have X_4 := Lib.hid (IsK.stb.fresh X_3.out (hb)); have Y_3 := Lib.hid (IsK.stb.fresh Y_2.out (hb)); have D_2 := Lib.hid (IsK.stb.fresh D_1.out (hb)); clear Qa_5 Ra_5 Qb_5 Rb_5 Z_5 bw_5 sz_5 X_3 Y_2 D_1; have N_0 := newN; clear newN; obtain ⟨P4, k4, rfl, _, _, _⟩ := id hv4; clear cRa0_10 cRa1_10 cRa2_10 cRb0_11 cRb1_11 cRb2_11 cZ0_12 cZ1_12 cZ2_12 fZ0_12 fZ1_12 fZ2_12; obtain ⟨cRa0_13, cRa1_13, cRa2_13⟩ := zac Ra_6.out; obtain ⟨cRb0_14, cRb1_14, cRb2_14⟩ := zac Rb_6.out; obtain ⟨cZ0_15, cZ1_15, cZ2_15⟩ := zac Z_6.out; obtain ⟨fZ0_15, fZ1_15, fZ2_15⟩ := zaq Z_6.out)
        | (go_at_call 96; have hc := lowest_q (neg := nega) (zag (IsK.stb.old N_0.out)) (zag (IsK.stb.old D_2.out)) Hd0.out Hnl.out Ld.out Hq.out; (with_reducible refine hc.mono ?_); clear hc; rintro e wp2 ⟨⟨v5, rfl, hv5⟩, hb⟩; have newV := Lib.hid (IsQ.stb.le hv5 sz_6.out); have Qa_7 := Lib.hid (IsQ.stb.next Qa_6.out (hb)); have Ra_7 := Lib.hid (Row.next Ra_6.out (hb)); have Qb_7 := Lib.hid (IsQ.stb.next Qb_6.out (hb)); have Rb_7 := Lib.hid (Row.next Rb_6.out (hb)); have Z_7 := Lib.hid (Row.next Z_6.out (hb)); have bw_7 := Lib.hid (zaa bw_6.out (hb)); have sz_7 := Lib.hid (zae sz_6.out (hb)); have X_5 := Lib.hid (IsK.stb.fresh X_4.out (hb)); have Y_4 := Lib.hid (IsK.stb.fresh Y_3.out (hb)); have D_3 := Lib.hid (IsK.stb.fresh D_2.out (hb)); have N_1 := Lib.hid (IsK.stb.fresh N_0.out (hb)); clear Qa_6 Ra_6 Qb_6 Rb_6 Z_6 bw_6 sz_6 X_4 Y_3 D_2 N_0; have V_0 := newV; clear newV; obtain ⟨s5, P5, k5, O5, l5, rfl, _, _, _⟩ := zaj hv5; clear cRa0_13 cRa1_13 cRa2_13 cRb0_14 cRb1_14 cRb2_14 cZ0_15 cZ1_15 cZ2_15 fZ0_15 fZ1_15 fZ2_15; obtain ⟨cRa0_16, cRa1_16, cRa2_16⟩ := zac Ra_7.out; obtain ⟨cRb0_17, cRb1_17, cRb2_17⟩ := zac Rb_7.out; obtain ⟨cZ0_18, cZ1_18, cZ2_18⟩ := zac Z_7.out; obtain ⟨fZ0_18, fZ1_18, fZ2_18⟩ := zaq Z_7.out))
    go_wp2_with fail
    refine zbc Tryz.results42 rfl rfl (Row.put3 Z_7.out _ _ _) (zei V_0.out bw_7.out (by omega) (by omega))
  · have Hs : Hid (negb = !nega) := by unfold Hid; cases nega <;> cases negb <;> simp at hs ⊢
    rcases Nat.lt_or_ge x y with hlt | hge
    · have Hlt := Lib.hid hlt
      obtain ⟨n, hn⟩ : ∃ n, n = y - x := ⟨_, rfl⟩
      have Hq : Hid (qc = mkRat (sg negb n) d) := Hov.out _ _ (by rw [Hs.out, hn, sg_sub' (Nat.le_of_lt hlt)]; simp)
      have Hnl : Hid ((lim n).length ≤ 2000000) := by rw [Hid, hn]; exact Nat.le_trans (zav (Nat.sub_le _ _)) (Nat.le_trans Ly.out (by omega))
      have Hn := Lib.hid hn
      have Hsg := Lib.hid (sgn_lt hlt)
      clear hn hlt
      go_wp2_with fail
      refine ((show Calls Tryz.prog 98 #[.slice P1 (lim x).length k1, .slice P2 (lim y).length k2] w3 (fun e w' => e = .returned (.int .i64 (-1)) ∧ Below w3.heap.size w3 w') from by rw [← Hsg.out]; exact (rorder_n (zag (IsK.stb.old X_2.out)) (zag (IsK.stb.old Y_1.out))).mono fun e w' ⟨he, hd⟩ => ⟨he, hd.below _⟩)).mono ?_
      rintro e w4 ⟨rfl, hb⟩
      have Qa_5 := Lib.hid (IsQ.stb.next Qa_4.out (hb))
      have Ra_5 := Lib.hid (Row.next Ra_4.out (hb))
      have Qb_5 := Lib.hid (IsQ.stb.next Qb_4.out (hb))
      have Rb_5 := Lib.hid (Row.next Rb_4.out (hb))
      have Z_5 := Lib.hid (Row.next Z_4.out (hb))
      have bw_5 := Lib.hid (zaa bw_4.out (hb))
      have sz_5 := Lib.hid (zae sz_4.out (hb))
      have X_3 := Lib.hid (IsK.stb.fresh X_2.out (hb))
      have Y_2 := Lib.hid (IsK.stb.fresh Y_1.out (hb))
      have D_1 := Lib.hid (IsK.stb.fresh D_0.out (hb))
      clear Qa_4 Ra_4 Qb_4 Rb_4 Z_4 bw_4 sz_4 X_2 Y_1 D_0
      clear cRa0_10 cRa1_10 cRa2_10 cRb0_11 cRb1_11 cRb2_11 cZ0_12 cZ1_12 cZ2_12 fZ0_12 fZ1_12 fZ2_12
      obtain ⟨cRa0_13, cRa1_13, cRa2_13⟩ := zac Ra_5.out
      obtain ⟨cRb0_14, cRb1_14, cRb2_14⟩ := zac Rb_5.out
      obtain ⟨cZ0_15, cZ1_15, cZ2_15⟩ := zac Z_5.out
      obtain ⟨fZ0_15, fZ1_15, fZ2_15⟩ := zaq Z_5.out
      go_wp2_with fail
      have Qa_6 := Lib.hid (IsQ.stb.next Qa_5.out (zab _))
      have Ra_6 := Lib.hid (Row.next Ra_5.out (zab _))
      have Qb_6 := Lib.hid (IsQ.stb.next Qb_5.out (zab _))
      have Rb_6 := Lib.hid (Row.next Rb_5.out (zab _))
      have Z_6 := Lib.hid (Row.next Z_5.out (zab _))
      have bw_6 := Lib.hid (zaa bw_5.out (zab _))
      have sz_6 := Lib.hid (zae sz_5.out (zab _))
      have X_4 := Lib.hid (IsK.stb.fresh X_3.out (zab _))
      have Y_3 := Lib.hid (IsK.stb.fresh Y_2.out (zab _))
      have D_2 := Lib.hid (IsK.stb.fresh D_1.out (zab _))
      clear Qa_5 Ra_5 Qb_5 Rb_5 Z_5 bw_5 sz_5 X_3 Y_2 D_1
      go_region_held3 (fun w' => w'.cell? ⟨w.heap.size + 1, 0, none⟩ = some (.bool negb))
        (first
          | exact cRb0_14
          | exact cRb0_17
          | exact cRb0_20
          | exact zau cRb0_20 (by omega))
        (first
          | (go_at_call 99; have hc := (show Calls Tryz.prog 99 #[.slice P2 (lim y).length k2, .slice P1 (lim x).length k1] (World.drew w4) (fun e w' => (∃ v, e = .returned v ∧ IsN w' (World.heap (World.drew w4)).size w'.heap.size v n) ∧ Below (World.heap (World.drew w4)).size (World.drew w4) w') from by rw [Hn.out]; exact rminus_n (zag (IsK.stb.old Y_3.out)) (zag (IsK.stb.old X_4.out)) (Nat.le_refl _) (Nat.le_refl _) (Nat.le_of_lt Hlt.out) (Nat.le_trans Ly.out (by omega))); (with_reducible refine hc.mono ?_); clear hc; rintro e wm1 ⟨⟨v5, rfl, hv5⟩, hb⟩; have newN := Lib.hid (zay hv5 sz_6.out); have Qa_7 := Lib.hid (IsQ.stb.next Qa_6.out (hb)); have Ra_7 := Lib.hid (Row.next Ra_6.out (hb)); have Qb_7 := Lib.hid (IsQ.stb.next Qb_6.out (hb)); have Rb_7 := Lib.hid (Row.next Rb_6.out (hb)); have Z_7 := Lib.hid (Row.next Z_6.out (hb)); have bw_7 := Lib.hid (zaa bw_6.out (hb)); have sz_7 := Lib.hid (zae sz_6.out (hb)); have X_5 := Lib.hid (IsK.stb.fresh X_4.out (hb)); have Y_4 := Lib.hid (IsK.stb.fresh Y_3.out (hb)); have D_3 := Lib.hid (IsK.stb.fresh D_2.out (hb)); clear Qa_6 Ra_6 Qb_6 Rb_6 Z_6 bw_6 sz_6 X_4 Y_3 D_2; have N_0 := newN; clear newN; obtain ⟨P5, k5, rfl, _, _, _⟩ := id hv5; clear cRa0_13 cRa1_13 cRa2_13 cRb0_14 cRb1_14 cRb2_14 cZ0_15 cZ1_15 cZ2_15 fZ0_15 fZ1_15 fZ2_15; obtain ⟨cRa0_16, cRa1_16, cRa2_16⟩ := zac Ra_7.out; obtain ⟨cRb0_17, cRb1_17, cRb2_17⟩ := zac Rb_7.out; obtain ⟨cZ0_18, cZ1_18, cZ2_18⟩ := zac Z_7.out; obtain ⟨fZ0_18, fZ1_18, fZ2_18⟩ := zaq Z_7.out)
          | (go_at_call 96; have hc := lowest_q (neg := negb) (zag (IsK.stb.old N_0.out)) (zag (IsK.stb.old D_3.out)) Hd0.out Hnl.out Ld.out Hq.out; (with_reducible refine hc.mono ?_); clear hc; rintro e wm2 ⟨⟨v6, rfl, hv6⟩, hb⟩; have newV := Lib.hid (IsQ.stb.le hv6 sz_7.out); have Qa_8 := Lib.hid (IsQ.stb.next Qa_7.out (hb)); have Ra_8 := Lib.hid (Row.next Ra_7.out (hb)); have Qb_8 := Lib.hid (IsQ.stb.next Qb_7.out (hb)); have Rb_8 := Lib.hid (Row.next Rb_7.out (hb)); have Z_8 := Lib.hid (Row.next Z_7.out (hb)); have bw_8 := Lib.hid (zaa bw_7.out (hb)); have sz_8 := Lib.hid (zae sz_7.out (hb)); have X_6 := Lib.hid (IsK.stb.fresh X_5.out (hb)); have Y_5 := Lib.hid (IsK.stb.fresh Y_4.out (hb)); have D_4 := Lib.hid (IsK.stb.fresh D_3.out (hb)); have N_1 := Lib.hid (IsK.stb.fresh N_0.out (hb)); clear Qa_7 Ra_7 Qb_7 Rb_7 Z_7 bw_7 sz_7 X_5 Y_4 D_3 N_0; have V_0 := newV; clear newV; obtain ⟨s6, P6, k6, O6, l6, rfl, _, _, _⟩ := zaj hv6; clear cRa0_16 cRa1_16 cRa2_16 cRb0_17 cRb1_17 cRb2_17 cZ0_18 cZ1_18 cZ2_18 fZ0_18 fZ1_18 fZ2_18; obtain ⟨cRa0_19, cRa1_19, cRa2_19⟩ := zac Ra_8.out; obtain ⟨cRb0_20, cRb1_20, cRb2_20⟩ := zac Rb_8.out; obtain ⟨cZ0_21, cZ1_21, cZ2_21⟩ := zac Z_8.out; obtain ⟨fZ0_21, fZ1_21, fZ2_21⟩ := zaq Z_8.out))
      go_wp2_with fail
      refine zbc Tryz.results42 rfl rfl (Row.put3 Z_8.out _ _ _) (zei V_0.out bw_8.out (by omega) (by omega))
    · have Hge := Lib.hid hge
      obtain ⟨n, hn⟩ : ∃ n, n = x - y := ⟨_, rfl⟩
      have Hq : Hid (qc = mkRat (sg nega n) d) := Hov.out _ _ (by rw [Hs.out, hn, sg_sub hge])
      have Hnl : Hid ((lim n).length ≤ 2000000) := by rw [Hid, hn]; exact Nat.le_trans (zav (Nat.sub_le _ _)) (Nat.le_trans Lx.out (by omega))
      have Hn := Lib.hid hn
      obtain ⟨r, hr, hr0⟩ : ∃ r, r = sgn x y ∧ 0 ≤ r := by
        refine ⟨_, rfl, ?_⟩
        rcases Nat.lt_or_ge y x with h | h
        · rw [sgn_gt h]; omega
        · rw [sgn_eq (Nat.le_antisymm h hge)]; omega
      have Hsg := Lib.hid hr
      clear hn hge hr
      go_wp2_with fail
      refine ((show Calls Tryz.prog 98 #[.slice P1 (lim x).length k1, .slice P2 (lim y).length k2] w3 (fun e w' => e = .returned (.int .i64 r) ∧ Below w3.heap.size w3 w') from by rw [Hsg.out]; exact (rorder_n (zag (IsK.stb.old X_2.out)) (zag (IsK.stb.old Y_1.out))).mono fun e w' ⟨he, hd⟩ => ⟨he, hd.below _⟩)).mono ?_
      rintro e w4 ⟨rfl, hb⟩
      have Qa_5 := Lib.hid (IsQ.stb.next Qa_4.out (hb))
      have Ra_5 := Lib.hid (Row.next Ra_4.out (hb))
      have Qb_5 := Lib.hid (IsQ.stb.next Qb_4.out (hb))
      have Rb_5 := Lib.hid (Row.next Rb_4.out (hb))
      have Z_5 := Lib.hid (Row.next Z_4.out (hb))
      have bw_5 := Lib.hid (zaa bw_4.out (hb))
      have sz_5 := Lib.hid (zae sz_4.out (hb))
      have X_3 := Lib.hid (IsK.stb.fresh X_2.out (hb))
      have Y_2 := Lib.hid (IsK.stb.fresh Y_1.out (hb))
      have D_1 := Lib.hid (IsK.stb.fresh D_0.out (hb))
      clear Qa_4 Ra_4 Qb_4 Rb_4 Z_4 bw_4 sz_4 X_2 Y_1 D_0
      clear cRa0_10 cRa1_10 cRa2_10 cRb0_11 cRb1_11 cRb2_11 cZ0_12 cZ1_12 cZ2_12 fZ0_12 fZ1_12 fZ2_12
      obtain ⟨cRa0_13, cRa1_13, cRa2_13⟩ := zac Ra_5.out
      obtain ⟨cRb0_14, cRb1_14, cRb2_14⟩ := zac Rb_5.out
      obtain ⟨cZ0_15, cZ1_15, cZ2_15⟩ := zac Z_5.out
      obtain ⟨fZ0_15, fZ1_15, fZ2_15⟩ := zaq Z_5.out
      go_wp2_with fail
      have Qa_6 := Lib.hid (IsQ.stb.next Qa_5.out (zab _))
      have Ra_6 := Lib.hid (Row.next Ra_5.out (zab _))
      have Qb_6 := Lib.hid (IsQ.stb.next Qb_5.out (zab _))
      have Rb_6 := Lib.hid (Row.next Rb_5.out (zab _))
      have Z_6 := Lib.hid (Row.next Z_5.out (zab _))
      have bw_6 := Lib.hid (zaa bw_5.out (zab _))
      have sz_6 := Lib.hid (zae sz_5.out (zab _))
      have X_4 := Lib.hid (IsK.stb.fresh X_3.out (zab _))
      have Y_3 := Lib.hid (IsK.stb.fresh Y_2.out (zab _))
      have D_2 := Lib.hid (IsK.stb.fresh D_1.out (zab _))
      clear Qa_5 Ra_5 Qb_5 Rb_5 Z_5 bw_5 sz_5 X_3 Y_2 D_1
      go_region_held3 (fun w' => w'.cell? ⟨w.heap.size, 0, none⟩ = some (.bool nega))
        (first
          | exact cRa0_13
          | exact cRa0_16
          | exact cRa0_19
          | exact zau cRa0_19 (by omega))
        (first
          | (go_at_call 99; have hc := (show Calls Tryz.prog 99 #[.slice P1 (lim x).length k1, .slice P2 (lim y).length k2] (World.drew w4) (fun e w' => (∃ v, e = .returned v ∧ IsN w' (World.heap (World.drew w4)).size w'.heap.size v n) ∧ Below (World.heap (World.drew w4)).size (World.drew w4) w') from by rw [Hn.out]; exact rminus_n (zag (IsK.stb.old X_4.out)) (zag (IsK.stb.old Y_3.out)) (Nat.le_refl _) (Nat.le_refl _) Hge.out (Nat.le_trans Lx.out (by omega))); (with_reducible refine hc.mono ?_); clear hc; rintro e wm1 ⟨⟨v5, rfl, hv5⟩, hb⟩; have newN := Lib.hid (zay hv5 sz_6.out); have Qa_7 := Lib.hid (IsQ.stb.next Qa_6.out (hb)); have Ra_7 := Lib.hid (Row.next Ra_6.out (hb)); have Qb_7 := Lib.hid (IsQ.stb.next Qb_6.out (hb)); have Rb_7 := Lib.hid (Row.next Rb_6.out (hb)); have Z_7 := Lib.hid (Row.next Z_6.out (hb)); have bw_7 := Lib.hid (zaa bw_6.out (hb)); have sz_7 := Lib.hid (zae sz_6.out (hb)); have X_5 := Lib.hid (IsK.stb.fresh X_4.out (hb)); have Y_4 := Lib.hid (IsK.stb.fresh Y_3.out (hb)); have D_3 := Lib.hid (IsK.stb.fresh D_2.out (hb)); clear Qa_6 Ra_6 Qb_6 Rb_6 Z_6 bw_6 sz_6 X_4 Y_3 D_2; have N_0 := newN; clear newN; obtain ⟨P5, k5, rfl, _, _, _⟩ := id hv5; clear cRa0_13 cRa1_13 cRa2_13 cRb0_14 cRb1_14 cRb2_14 cZ0_15 cZ1_15 cZ2_15 fZ0_15 fZ1_15 fZ2_15; obtain ⟨cRa0_16, cRa1_16, cRa2_16⟩ := zac Ra_7.out; obtain ⟨cRb0_17, cRb1_17, cRb2_17⟩ := zac Rb_7.out; obtain ⟨cZ0_18, cZ1_18, cZ2_18⟩ := zac Z_7.out; obtain ⟨fZ0_18, fZ1_18, fZ2_18⟩ := zaq Z_7.out)
          | (go_at_call 96; have hc := lowest_q (neg := nega) (zag (IsK.stb.old N_0.out)) (zag (IsK.stb.old D_3.out)) Hd0.out Hnl.out Ld.out Hq.out; (with_reducible refine hc.mono ?_); clear hc; rintro e wm2 ⟨⟨v6, rfl, hv6⟩, hb⟩; have newV := Lib.hid (IsQ.stb.le hv6 sz_7.out); have Qa_8 := Lib.hid (IsQ.stb.next Qa_7.out (hb)); have Ra_8 := Lib.hid (Row.next Ra_7.out (hb)); have Qb_8 := Lib.hid (IsQ.stb.next Qb_7.out (hb)); have Rb_8 := Lib.hid (Row.next Rb_7.out (hb)); have Z_8 := Lib.hid (Row.next Z_7.out (hb)); have bw_8 := Lib.hid (zaa bw_7.out (hb)); have sz_8 := Lib.hid (zae sz_7.out (hb)); have X_6 := Lib.hid (IsK.stb.fresh X_5.out (hb)); have Y_5 := Lib.hid (IsK.stb.fresh Y_4.out (hb)); have D_4 := Lib.hid (IsK.stb.fresh D_3.out (hb)); have N_1 := Lib.hid (IsK.stb.fresh N_0.out (hb)); clear Qa_7 Ra_7 Qb_7 Rb_7 Z_7 bw_7 sz_7 X_5 Y_4 D_3 N_0; have V_0 := newV; clear newV; obtain ⟨s6, P6, k6, O6, l6, rfl, _, _, _⟩ := zaj hv6; clear cRa0_16 cRa1_16 cRa2_16 cRb0_17 cRb1_17 cRb2_17 cZ0_18 cZ1_18 cZ2_18 fZ0_18 fZ1_18 fZ2_18; obtain ⟨cRa0_19, cRa1_19, cRa2_19⟩ := zac Ra_8.out; obtain ⟨cRb0_20, cRb1_20, cRb2_20⟩ := zac Rb_8.out; obtain ⟨cZ0_21, cZ1_21, cZ2_21⟩ := zac Z_8.out; obtain ⟨fZ0_21, fZ1_21, fZ2_21⟩ := zaq Z_8.out))
      go_wp2_with fail
      refine zbc Tryz.results42 rfl rfl (Row.put3 Z_8.out _ _ _) (zei V_0.out bw_8.out (by omega) (by omega))
theorem rsize0 (w : World) : Calls Tryz.prog 148 #[.int .i64 0] w fun e w' => e = .returned (.slice none 0 0) ∧ w = w' := by
  go_enter Tryz.func148, Tryz.ntmps148
  go_wp2_with fail
  go_loopw [0, 3, 4] (fun n o d wr => n = .int .i64 0 ∧ o = .slice none 0 0 ∧ w = wr) (fun _ _ _ _ => 0)
  case atStart => exact ⟨rfl, rfl, rfl⟩
  case round =>
    obtain ⟨rfl, rfl, rfl⟩ := hrel
    go_wp2_with fail
    go_ret
    exact ⟨rfl, rfl⟩
theorem whole0_q (w : World) : Calls Tryz.prog 110 #[.int .i64 0] w (RetQ w 0) := by
  obtain ⟨w0, hw0, hb0, rZ, Hz⟩ := zbp w #[.bool false, .slice none 0 0, .slice none 0 0] 31
  have RZ := Lib.hid rZ
  have HB0 := Lib.hid hb0
  clear rZ hb0
  go_enter Tryz.func110, Tryz.ntmps110
  go_wp2_with fail
  clear hw0
  refine (rsize0 _).mono ?_
  rintro e w1 ⟨rfl, rfl⟩
  go_wp2_with fail
  refine (lowest_q (n := 0) (d := 1) (q := 0) (neg := false) (zag numS_zero) (zag (IsK.stb.old (lit_one w0))) (by omega) (by rw [zbb]; decide) (by rw [zdg]; decide) (by rw [sg_zero, Rat.zero_mkRat])).mono ?_
  rintro e w2 ⟨⟨v, rfl, hv⟩, hb⟩
  have HV := Lib.hid (IsQ.stb.le hv (m := w.heap.size + 1) (by have := Hz.out; rw [World.size_alloc]; omega))
  have hb2 := zaa (zbe _ _) hb
  have Hb2 := Lib.hid (zaa HB0.out hb2)
  have RZ2 := Lib.hid (RZ.out.next hb2)
  obtain ⟨s, P, k, O, l, rfl, _, _, _⟩ := zaj hv
  obtain ⟨d0, d1, d2⟩ := zac RZ2.out
  obtain ⟨f0, f1, f2⟩ := zaq RZ2.out
  clear hb hb2 hv
  go_wp2_with fail
  refine zbc Tryz.results110 rfl rfl (Row.put3 RZ2.out _ _ _) (zei HV.out Hb2.out (Nat.le_refl _) (by omega))
set_option maxRecDepth 100000 in
set_option maxHeartbeats 4000000 in
theorem product_q {w : World} {va vb : Value} {a b : List Rat} {M : Nat} (ha : IsV w (Old w) va (rawV a)) (hb : IsV w (Old w) vb (rawV b)) (hla : a.length = M) (hlb : b.length = M) (hM : M ≤ 40) (sa : ∀ q ∈ a, Sz q 1024) (sb : ∀ q ∈ b, Sz q 1024) :
    Calls Tryz.prog 62 #[va, vb] w (RetQ w (dotQ a b)) := by
  have HA := Lib.hid ha
  have HV := Lib.hid hb
  have Hla := Lib.hid hla
  have Hlb := Lib.hid hlb
  have Hsa := Lib.hid sa
  have Hsb := Lib.hid sb
  have Hz40 : Hid (∀ k, Sz (sumP ((a.zip b).take k)) 100000) := fun k => sumP_any (n := 1024) (by rw [List.length_take, List.length_zip]; omega) fun p hp => by
    have := List.of_mem_zip (List.mem_of_mem_take hp)
    exact ⟨sa _ this.1, sb _ this.2⟩
  obtain ⟨A, cA, rfl, _⟩ := zbf ha
  obtain ⟨B, cB, rfl, _⟩ := zbf hb
  have ela : (rawV a).length = M := by simp [rawV, hla]
  have elb : (rawV b).length = M := by simp [rawV, hlb]
  rw [ela] at HA
  rw [elb] at HV
  rw [ela, elb]
  clear ha hb hla hlb sa sb ela elb
  obtain ⟨w0, hw0, hb0, rZ, Hz⟩ := zbp w #[.bool false, .slice none 0 0, .slice none 0 0] 31
  have RZ := Lib.hid rZ
  have HB0 := Lib.hid hb0
  clear rZ hb0
  go_enter Tryz.func62, Tryz.ntmps62
  go_wp2_with fail
  clear hw0
  refine (whole0_q _).mono ?_
  rintro e w1 ⟨⟨v, rfl, hv⟩, hb⟩
  have HV1 := Lib.hid (IsQ.stb.le hv (m := w.heap.size + 1) (by have := Hz.out; omega))
  have Hb1 := Lib.hid (zaa HB0.out hb)
  have RZ1 := Lib.hid (RZ.out.next hb)
  obtain ⟨s, P, k, O, l, rfl, _, _, _⟩ := zaj hv
  clear hb hv
  go_wp2_with fail
  go_loopw [6] (fun i wr => ∃ (k : Nat) (S : Bool) (vn vd : Value), k ≤ M ∧ i = .int .i64 (k : Int) ∧ Below w.heap.size w wr ∧ Row wr w.heap.size 31 [.bool false, .slice none 0 0, .slice none 0 0] ∧ Row wr w1.heap.size 31 [.bool S, vn, vd] ∧ IsQ wr (fun b => New (w.heap.size + 1) wr b ∧ b ≠ w1.heap.size) (.agg #[.bool S, vn, vd]) (sumP ((a.zip b).take k))) (fun i _ => M - (intOf i).toNat)
  case atStart =>
    refine ⟨0, _, _, _, Nat.zero_le _, rfl, zaa Hb1.out (zbe _ _), RZ1.out.next (zbe _ _), heap_alloc_new w1 _, IsQ.stb.to HV1.out fun x hx => ⟨⟨⟨hx.1, by have := hx.2; rw [World.size_alloc]; omega⟩, by have := hx.2; omega⟩, fun o => (zbe w1 _).cell (p := ⟨x, o, none⟩) hx.2⟩⟩
  case round =>
    obtain ⟨k, S, vn, vd, hk, rfl, hbw, rz, rs, hs⟩ := hrel
    have hsq := IsQ.stb.to hs (zba fun b h => h.1.2 : Same _ (Old wr) wr wr)
    have Hs := Lib.hid hs
    have Hsq := Lib.hid hsq
    have HBw := Lib.hid hbw
    have RZw := Lib.hid rz
    have RSw := Lib.hid rs
    obtain ⟨s', P', k', O', l', hve, _, _, _⟩ := zaj hs
    simp only [Value.agg.injEq, Array.mk.injEq, List.cons.injEq, Value.bool.injEq] at hve
    obtain ⟨rfl, rfl, rfl, _⟩ := hve
    clear hs hsq rz rs
    rcases Nat.lt_or_ge k M with hlt | hge
    · obtain ⟨x, hx, hrx⟩ := zcl (l := a) (j := k) (by rw [Hla.out]; exact hlt)
      obtain ⟨y, hy, hry⟩ := zcl (l := b) (j := k) (by rw [Hlb.out]; exact hlt)
      obtain ⟨b1, o1, X1, X2, X3, X4, rfl, hSb1, helx, c0, c1, c2⟩ := zcg HA.out hrx
      obtain ⟨b2, o2, Y1, Y2, Y3, Y4, rfl, hSb2, hely, d0, d1, d2⟩ := zcg HV.out hry
      obtain ⟨x0, hx0⟩ : ∃ s, s = (raw x).neg := ⟨_, rfl⟩
      obtain ⟨x1, hx1⟩ : ∃ s, s = (raw x).num.length := ⟨_, rfl⟩
      obtain ⟨x2, hx2⟩ : ∃ s, s = (raw x).den.length := ⟨_, rfl⟩
      obtain ⟨y0, hy0⟩ : ∃ s, s = (raw y).neg := ⟨_, rfl⟩
      obtain ⟨y1, hy1⟩ : ∃ s, s = (raw y).num.length := ⟨_, rfl⟩
      obtain ⟨y2, hy2⟩ : ∃ s, s = (raw y).den.length := ⟨_, rfl⟩
      rw [← hx0] at c0
      rw [← hx1] at c1
      rw [← hx2] at c2
      rw [← hy0] at d0
      rw [← hy1] at d1
      rw [← hy2] at d2
      rw [← hx0, ← hx1, ← hx2] at helx
      rw [← hy0, ← hy1, ← hy2] at hely
      have e0 := hbw.cell (p := ⟨b1, o1 + k * 3, none⟩) hSb1 |>.trans c0
      have e1 := hbw.cell (p := ⟨b1, o1 + k * 3 + 1, none⟩) hSb1 |>.trans c1
      have e2 := hbw.cell (p := ⟨b1, o1 + k * 3 + 2, none⟩) hSb1 |>.trans c2
      have f0 := hbw.cell (p := ⟨b2, o2 + k * 3, none⟩) hSb2 |>.trans d0
      have f1 := hbw.cell (p := ⟨b2, o2 + k * 3 + 1, none⟩) hSb2 |>.trans d1
      have f2 := hbw.cell (p := ⟨b2, o2 + k * 3 + 2, none⟩) hSb2 |>.trans d2
      have hSb1' : b1 < w.heap.size := hSb1
      have hSb2' : b2 < w.heap.size := hSb2
      have hw1 : w.heap.size < w1.heap.size := RZ1.out.lt
      obtain ⟨p, hp⟩ : ∃ p, p = x * y := ⟨_, rfl⟩
      obtain ⟨S1, hS1⟩ : ∃ r, r = sumP ((a.zip b).take k) := ⟨_, rfl⟩
      obtain ⟨S2, hS2⟩ : ∃ r, r = S1 + p := ⟨_, rfl⟩
      rw [← hS1] at Hsq RSw
      have Hend : Hid (S2 = sumP ((a.zip b).take (k + 1))) := by
        rw [Hid, zcn (x := (x, y)) (List.getElem?_zip_eq_some.2 ⟨hx, hy⟩), sumP_snoc, hS2, hS1, hp]
      have Hp := Lib.hid hp
      have HS2 := Lib.hid hS2
      have Hs1 : Hid (Sz S1 100000) := by rw [Hid, hS1]; exact Hz40.out k
      have Hsx0 : Hid (Sz x 1024) := Hsa.out x (List.mem_of_getElem? hx)
      have Hsy0 : Hid (Sz y 1024) := Hsb.out y (List.mem_of_getElem? hy)
      have Hsx : Hid (Sz x 100000) := Hsx0.out.le (by omega)
      have Hsy : Hid (Sz y 100000) := Hsy0.out.le (by omega)
      have Hsp : Hid (Sz p 100000) := by rw [Hid, hp]; exact (Hsx0.out.mul Hsy0.out).le (by omega)
      have cr := zbm
      have hnn := hbw.size
      have hnr := RSw.out.lt
      have Qx_0 := Lib.hid (IsQ.stb.to (zdf helx) (zar hbw))
      have Qy_0 := Lib.hid (IsQ.stb.to (zdf hely) (zar hbw))
      have V_0 := Lib.hid (Hsq.out)
      have Rs_0 := Lib.hid (RSw.out)
      have Zr_0 := Lib.hid (RZw.out)
      have bW_0 := Lib.hid (Below.refl wr.heap.size wr)
      have sz_0 := Lib.hid (Nat.le_refl wr.heap.size)
      clear hx hy hrx hry helx hely hx0 hx1 hx2 hy0 hy1 hy2 hp hS1 hS2 HV1 RZ1 c0 c1 c2 d0 d1 d2 RSw RZw Hsq Hsx0 Hsy0 hbw Hs
      obtain ⟨cRs0_1, cRs1_1, cRs2_1⟩ := zac Rs_0.out
      obtain ⟨fRs0_1, fRs1_1, fRs2_1⟩ := zaq Rs_0.out
      go_wp2_with fail
      have Qx_1 := Lib.hid (IsQ.stb.next Qx_0.out (zab _))
      have Qy_1 := Lib.hid (IsQ.stb.next Qy_0.out (zab _))
      have V_1 := Lib.hid (IsQ.stb.next V_0.out (zab _))
      have Rs_1 := Lib.hid (Row.next Rs_0.out (zab _))
      have Zr_1 := Lib.hid (Row.next Zr_0.out (zab _))
      have bW_1 := Lib.hid (zaa bW_0.out (zab _))
      have sz_1 := Lib.hid (zae sz_0.out (zab _))
      clear Qx_0 Qy_0 V_0 Rs_0 Zr_0 bW_0 sz_0
      clear cRs0_1 cRs1_1 cRs2_1 fRs0_1 fRs1_1 fRs2_1
      obtain ⟨cRs0_2, cRs1_2, cRs2_2⟩ := zac Rs_1.out
      obtain ⟨fRs0_2, fRs1_2, fRs2_2⟩ := zaq Rs_1.out
      go_region_with (first
          | (go_at_call 43; have hc := rmulq Qx_1.out Qy_1.out Hsx.out Hsy.out Hp.out; (with_reducible refine hc.mono ?_); clear hc; rintro e w3 ⟨⟨v3, rfl, hv3⟩, hb⟩; have newP := Lib.hid (IsQ.stb.old hv3); have Qx_2 := Lib.hid (IsQ.stb.next Qx_1.out (hb)); have Qy_2 := Lib.hid (IsQ.stb.next Qy_1.out (hb)); have V_2 := Lib.hid (IsQ.stb.next V_1.out (hb)); have Rs_2 := Lib.hid (Row.next Rs_1.out (hb)); have Zr_2 := Lib.hid (Row.next Zr_1.out (hb)); have bW_2 := Lib.hid (zaa bW_1.out (hb)); have sz_2 := Lib.hid (zae sz_1.out (hb)); clear Qx_1 Qy_1 V_1 Rs_1 Zr_1 bW_1 sz_1; have P_0 := newP; clear newP; obtain ⟨s3, P3, k3, O3, l3, rfl, _, _, _⟩ := zaj hv3; have e0_3 := zad (hb) e0; have e1_4 := zad (hb) e1; have e2_5 := zad (hb) e2; have f0_6 := zad (hb) f0; have f1_7 := zad (hb) f1; have f2_8 := zad (hb) f2; clear cRs0_2 cRs1_2 cRs2_2 fRs0_2 fRs1_2 fRs2_2 e0 e1 e2 f0 f1 f2; obtain ⟨cRs0_9, cRs1_9, cRs2_9⟩ := zac Rs_2.out; obtain ⟨fRs0_9, fRs1_9, fRs2_9⟩ := zaq Rs_2.out)
          | (go_at_call 42; have hc := raddq V_2.out P_0.out Hs1.out Hsp.out HS2.out; (with_reducible refine hc.mono ?_); clear hc; rintro e w4 ⟨⟨v4, rfl, hv4⟩, hb⟩; have newU := Lib.hid (IsQ.stb.le hv4 sz_2.out); have Qx_3 := Lib.hid (IsQ.stb.next Qx_2.out (hb)); have Qy_3 := Lib.hid (IsQ.stb.next Qy_2.out (hb)); have V_3 := Lib.hid (IsQ.stb.next V_2.out (hb)); have Rs_3 := Lib.hid (Row.next Rs_2.out (hb)); have Zr_3 := Lib.hid (Row.next Zr_2.out (hb)); have bW_3 := Lib.hid (zaa bW_2.out (hb)); have sz_3 := Lib.hid (zae sz_2.out (hb)); have P_1 := Lib.hid (IsQ.stb.next P_0.out (hb)); clear Qx_2 Qy_2 V_2 Rs_2 Zr_2 bW_2 sz_2 P_0; have U_0 := newU; clear newU; obtain ⟨s4, P4, k4, O4, l4, rfl, _, _, _⟩ := zaj hv4; have e0_10 := zad (hb) e0_3; have e1_11 := zad (hb) e1_4; have e2_12 := zad (hb) e2_5; have f0_13 := zad (hb) f0_6; have f1_14 := zad (hb) f1_7; have f2_15 := zad (hb) f2_8; clear cRs0_9 cRs1_9 cRs2_9 fRs0_9 fRs1_9 fRs2_9 e0_3 e1_4 e2_5 f0_6 f1_7 f2_8; obtain ⟨cRs0_16, cRs1_16, cRs2_16⟩ := zac Rs_3.out; obtain ⟨fRs0_16, fRs1_16, fRs2_16⟩ := zaq Rs_3.out))
      all_goals
        go_wp2_with fail
        have hbE := zbn (g := w1.heap.size) (zaa HBw.out bW_3.out) (by omega)
        go_roundw
        case rel =>
          refine ⟨k + 1, _, _, _, by omega, by go_num, hbE _ _ _, Row.far3 Zr_3.out (by omega) _ _ _, Row.put3 Rs_3.out _ _ _, ?_⟩
          rw [← Hend.out]
          have hz := bW_3.out.size
          exact IsQ.stb.to U_0.out (zce fun x hx => ⟨by have := hx.1; omega, ⟨⟨by have := hx.1; omega, by rw [zcf]; exact hx.2⟩, by have := hx.1; omega⟩⟩)
        case measure => simp [intOf]; omega
    · obtain rfl : k = M := by omega
      have e : (a.zip b).take k = a.zip b := List.take_of_length_le (by rw [List.length_zip, Hla.out, Hlb.out]; omega)
      have hnn := hbw.size
      rw [e] at Hs RSw
      obtain ⟨s0, s1, s2⟩ := zac RSw.out
      obtain ⟨z0, z1, z2⟩ := zac RZw.out
      obtain ⟨fz0, fz1, fz2⟩ := zaq RZw.out
      clear hbw e
      go_wp2_with fail
      refine zbc Tryz.results62 rfl rfl (Row.put3 RZw.out _ _ _) ?_
      exact ⟨⟨_, rfl, IsQ.stb.to Hs.out (zce fun b hb => ⟨by have := hb.1.1; omega, by have := hb.1.1; omega, by rw [zcf]; exact hb.1.2⟩)⟩, zbn HBw.out (Nat.le_refl _) _ _ _⟩
end Go.Proofs.YtblpaocignlpkaaGreatDoor
