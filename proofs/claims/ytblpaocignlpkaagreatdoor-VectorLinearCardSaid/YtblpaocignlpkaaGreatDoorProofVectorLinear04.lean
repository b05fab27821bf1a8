/-
  Contracts of the reference's functions on rational numbers: Lowest, Minus, Plus, Times, Order, Zero.
-/
import Derived.Test.YtblpaocignlpkaaGreatDoorVlin06
import Derived.Test.YtblpaocignlpkaaGreatDoorProofVectorLinear02
import Derived.Test.YtblpaocignlpkaaGreatDoorProofVectorLinear03
import Derived.Test.YtblpaocignlpkaaGreatDoorVlin02
import Derived.Test.YtblpaocignlpkaaGreatDoorVlin18
import Derived.Test.YtblpaocignlpkaaGreatDoorProofVectorLinear01
import Derived.Test.YtblpaocignlpkaaGreatDoorVlin09
import Derived.Test.YtblpaocignlpkaaGreatDoorVlin10
import Derived.Test.YtblpaocignlpkaaGreatDoorVlin07
namespace Go.Proofs.YtblpaocignlpkaaGreatDoor
open Go.RowKit
set_option linter.unusedVariables false
theorem lit_one (w : World) : NumS (w.alloc (.cells #[.int .u32 1] 103)) (New w.heap.size (w.alloc (.cells #[.int .u32 1] 103))) (.slice (some ⟨w.heap.size, 0, none⟩) 1 1) 1 := by
  have h := isL_new .u32 w 103 [1] (by unfold maxLen; decide)
  unfold NumS
  rw [zdy]
  exact IsL.isK h fun b h1 h2 => ⟨h1, by rw [World.size_alloc]; exact h2⟩
set_option maxHeartbeats 1000000 in
theorem lowest_q {w : World} {va vb : Value} {n d : Nat} {neg : Bool} {q : Rat} (ha : IsN w 0 w.heap.size va n) (hb : IsN w 0 w.heap.size vb d) (hd0 : d ≠ 0) (hn : (lim n).length ≤ 2000000) (hd : (lim d).length ≤ 2000000) (hq : q = mkRat (sg neg n) d) : Calls Tryz.prog 96 #[.bool neg, va, vb] w (RetQ w q) := by
  have Ha := Lib.hid ha
  have Hb := Lib.hid hb
  have Hn := Lib.hid hn
  have Hd := Lib.hid hd
  obtain ⟨A, cA, rfl, _, _, _⟩ := ha
  obtain ⟨B, cB, rfl, _, _, _⟩ := hb
  clear hn hd
  obtain ⟨w0, hw0, hb0, rZ, Hz⟩ := zbq w #[.bool false, .slice none 0 0, .slice none 0 0] 31
  have Z_0 := Lib.hid (rZ)
  have bw_0 := Lib.hid (hb0)
  have sz_0 : Hid (w.heap.size + 1 ≤ w0.heap.size) := Lib.hid (Nat.le_of_eq Hz.out.symm)
  clear rZ hb0
  obtain ⟨cZ0_1, cZ1_1, cZ2_1⟩ := zac Z_0.out
  obtain ⟨fZ0_1, fZ1_1, fZ2_1⟩ := zau Z_0.out
  have A_0 := Lib.hid (IsN.next Ha.out bw_0.out)
  have D_0 := Lib.hid (IsN.next Hb.out bw_0.out)
  by_cases h0 : n = 0
  · have e0 := zfj h0
    have Hq : Hid (q = 0) := by rw [Hid, hq, h0, sg_zero, Rat.zero_mkRat]
    clear h0 hq
    obtain ⟨d0, d1, d2⟩ := zac (Row.alloc Z_0.out (.cells #[.int .u32 1] 103))
    obtain ⟨d3, d4, d5⟩ := zau (Row.alloc Z_0.out (.cells #[.int .u32 1] 103))
    go_enter Tryz.func96, Tryz.ntmps96
    go_wp2_with fail
    rw [Hq.out]
    refine zbd Tryz.results96 rfl rfl (Row.put3 (Row.alloc Z_0.out _) _ _ _) (retQ (n := 0) (d := 1) (by rw [raw_zero, zbe, zdy]) (below_stepA bw_0.out _) (Nat.le_refl _) (numS_zero (S := New (w.heap.size + 1) _)) (lit_one w0) (by omega) (by have := Hz.out; omega))
  · have e0 := zdn h0
    obtain ⟨G, hG⟩ : ∃ G, G = Nat.gcd n d := ⟨_, rfl⟩
    have Hr : Hid (raw q = ⟨neg, lim (n / G), lim (d / G)⟩) := by rw [Hid, hq, hG]; exact raw_ratio h0 hd0
    have HGp : Hid (0 < G) := by rw [Hid, hG]; exact Nat.gcd_pos_of_pos_right _ (by omega)
    have HG := Lib.hid hG
    clear h0 hG hq
    go_enter Tryz.func96, Tryz.ntmps96
    go_wp2_with fail
    clear hw0
    refine ((show Calls Tryz.prog 144 #[.slice A (lim n).length cA, .slice B (lim d).length cB] w0 (fun e w' => (∃ v, e = .returned v ∧ IsN w' 0 w'.heap.size v G) ∧ Below w0.heap.size w0 w') from by rw [HG.out]; exact rcommon_n A_0.out D_0.out (Nat.le_trans Hn.out (by omega)) (Nat.le_trans Hd.out (by omega)))).mono ?_
    rintro e w1 ⟨⟨v1, rfl, hv⟩, hb⟩
    have newG := Lib.hid (hv)
    have Z_1 := Lib.hid (Row.next Z_0.out (hb))
    have bw_1 := Lib.hid (zaa bw_0.out (hb))
    have sz_1 := Lib.hid (zaf sz_0.out (hb))
    have A_1 := Lib.hid (IsN.next A_0.out (hb))
    have D_1 := Lib.hid (IsN.next D_0.out (hb))
    clear Z_0 bw_0 sz_0 A_0 D_0
    have G_0 := newG
    clear newG
    obtain ⟨P1, k1, rfl, _, _, _⟩ := id hv
    clear cZ0_1 cZ1_1 cZ2_1 fZ0_1 fZ1_1 fZ2_1
    obtain ⟨cZ0_2, cZ1_2, cZ2_2⟩ := zac Z_1.out
    obtain ⟨fZ0_2, fZ1_2, fZ2_2⟩ := zau Z_1.out
    go_wp2_with fail
    refine (rover_f A_1.out G_0.out HGp.out (Nat.le_trans Hn.out (by omega))).mono ?_
    rintro e w2 ⟨⟨v2, v2r, rfl, hv2, _⟩, hb⟩
    have newN := Lib.hid (zay hv2 sz_1.out)
    have Z_2 := Lib.hid (Row.next Z_1.out (hb))
    have bw_2 := Lib.hid (zaa bw_1.out (hb))
    have sz_2 := Lib.hid (zaf sz_1.out (hb))
    have A_2 := Lib.hid (IsN.next A_1.out (hb))
    have D_2 := Lib.hid (IsN.next D_1.out (hb))
    have G_1 := Lib.hid (IsN.next G_0.out (hb))
    clear Z_1 bw_1 sz_1 A_1 D_1 G_0
    have N_0 := newN
    clear newN
    obtain ⟨P2, k2, rfl, _, _, _⟩ := id hv2
    clear cZ0_2 cZ1_2 cZ2_2 fZ0_2 fZ1_2 fZ2_2
    obtain ⟨cZ0_3, cZ1_3, cZ2_3⟩ := zac Z_2.out
    obtain ⟨fZ0_3, fZ1_3, fZ2_3⟩ := zau Z_2.out
    go_wp2_with fail
    refine (rover_f D_2.out G_1.out HGp.out (Nat.le_trans Hd.out (by omega))).mono ?_
    rintro e w3 ⟨⟨v3, v3r, rfl, hv3, _⟩, hb⟩
    have newE := Lib.hid (zay hv3 sz_2.out)
    have Z_3 := Lib.hid (Row.next Z_2.out (hb))
    have bw_3 := Lib.hid (zaa bw_2.out (hb))
    have sz_3 := Lib.hid (zaf sz_2.out (hb))
    have A_3 := Lib.hid (IsN.next A_2.out (hb))
    have D_3 := Lib.hid (IsN.next D_2.out (hb))
    have G_2 := Lib.hid (IsN.next G_1.out (hb))
    have N_1 := Lib.hid (IsK.stb.fresh N_0.out (hb))
    clear Z_2 bw_2 sz_2 A_2 D_2 G_1 N_0
    have E_0 := newE
    clear newE
    obtain ⟨P3, k3, rfl, _, _, _⟩ := id hv3
    clear cZ0_3 cZ1_3 cZ2_3 fZ0_3 fZ1_3 fZ2_3
    obtain ⟨cZ0_4, cZ1_4, cZ2_4⟩ := zac Z_3.out
    obtain ⟨fZ0_4, fZ1_4, fZ2_4⟩ := zau Z_3.out
    go_wp2_with fail
    refine zbd Tryz.results96 rfl rfl (Row.put3 Z_3.out _ _ _) (retQ Hr.out bw_3.out (by omega) N_1.out E_0.out (by omega) (by omega))
set_option maxRecDepth 100000 in
set_option maxHeartbeats 1000000 in
theorem rmulq {w : World} {va vb : Value} {qa qb qc : Rat} (ha : IsQ w (Old w) va qa) (hb : IsQ w (Old w) vb qb) (hsa : Sz qa 100000) (hsb : Sz qb 100000) (hc : qc = qa * qb) : Calls Tryz.prog 43 #[va, vb] w (RetQ w qc) := by
  have HQa := Lib.hid ha
  obtain ⟨nega, Aa, cAa, Ba, cBa, rfl, Hnega, Hna, Hda⟩ := zal ha
  have HQb := Lib.hid hb
  obtain ⟨negb, Ab, cAb, Bb, cBb, rfl, Hnegb, Hnb, Hdb⟩ := zal hb
  obtain ⟨ng, hng⟩ : ∃ ng : Bool, (!(nega == negb)) = ng := ⟨_, rfl⟩
  obtain ⟨x, hx⟩ : ∃ x, x = qa.num.natAbs * qb.num.natAbs := ⟨_, rfl⟩
  obtain ⟨d, hd⟩ : ∃ d, d = qa.den * qb.den := ⟨_, rfl⟩
  have Hq : Hid (qc = mkRat (sg ng x) d) := by rw [Hid, hc, ← hng, hx, hd]; exact (times_over Hnega.out Hnegb.out).symm
  have Hx := Lib.hid hx
  have Hdd := Lib.hid hd
  have Hd0 : Hid (d ≠ 0) := by rw [Hid, hd]; exact Nat.mul_ne_zero qa.den_nz qb.den_nz
  have Lx : Hid ((lim x).length ≤ 2000000) := by rw [Hid, hx]; exact Nat.le_trans (zen hsa.1 hsb.1) (by omega)
  have Ld : Hid ((lim d).length ≤ 2000000) := by rw [Hid, hd]; exact Nat.le_trans (zen hsa.2 hsb.2) (by omega)
  have Hsa := Lib.hid hsa
  have Hsb := Lib.hid hsb
  clear ha hb hc hsa hsb hx hd
  obtain ⟨w0, hw0, hb0, ra, rb, rZ, Hz⟩ := zfd w #[.bool nega, .slice Aa (lim qa.num.natAbs).length cAa, .slice Ba (lim qa.den).length cBa] #[.bool negb, .slice Ab (lim qb.num.natAbs).length cAb, .slice Bb (lim qb.den).length cBb] #[.bool false, .slice none 0 0, .slice none 0 0] 31 31 31
  have Qa_0 := Lib.hid (IsQ.stb.next HQa.out hb0)
  have Ra_0 := Lib.hid (ra)
  have Qb_0 := Lib.hid (IsQ.stb.next HQb.out hb0)
  have Rb_0 := Lib.hid (rb)
  have Z_0 := Lib.hid (rZ)
  have bw_0 := Lib.hid (hb0)
  have sz_0 : Hid (w.heap.size + 3 ≤ w0.heap.size) := Lib.hid (Nat.le_of_eq Hz.out.symm)
  clear ra rb rZ hb0
  obtain ⟨cRa0_1, cRa1_1, cRa2_1⟩ := zac Ra_0.out
  obtain ⟨cRb0_2, cRb1_2, cRb2_2⟩ := zac Rb_0.out
  obtain ⟨cZ0_3, cZ1_3, cZ2_3⟩ := zac Z_0.out
  obtain ⟨fZ0_3, fZ1_3, fZ2_3⟩ := zau Z_0.out
  go_enter Tryz.func43, Tryz.ntmps43
  go_wp2_with fail
  clear hw0
  have Qa_1 := Lib.hid (IsQ.stb.next Qa_0.out (zab _))
  have Ra_1 := Lib.hid (Row.next Ra_0.out (zab _))
  have Qb_1 := Lib.hid (IsQ.stb.next Qb_0.out (zab _))
  have Rb_1 := Lib.hid (Row.next Rb_0.out (zab _))
  have Z_1 := Lib.hid (Row.next Z_0.out (zab _))
  have bw_1 := Lib.hid (zaa bw_0.out (zab _))
  have sz_1 := Lib.hid (zaf sz_0.out (zab _))
  clear Qa_0 Ra_0 Qb_0 Rb_0 Z_0 bw_0 sz_0
  go_region_held3 (fun w' => w'.cell? ⟨w.heap.size, 0, none⟩ = some (.bool nega) ∧ w'.cell? ⟨w.heap.size, 1, none⟩ = some (.slice Aa (lim qa.num.natAbs).length cAa) ∧ w'.cell? ⟨w.heap.size, 2, none⟩ = some (.slice Ba (lim qa.den).length cBa) ∧ w'.cell? ⟨w.heap.size + 1, 0, none⟩ = some (.bool negb) ∧ w'.cell? ⟨w.heap.size + 1, 1, none⟩ = some (.slice Ab (lim qb.num.natAbs).length cAb) ∧ w'.cell? ⟨w.heap.size + 1, 2, none⟩ = some (.slice Bb (lim qb.den).length cBb))
    (first
      | exact ⟨cRa0_1, cRa1_1, cRa2_1, cRb0_2, cRb1_2, cRb2_2⟩
      | exact ⟨cRa0_4, cRa1_4, cRa2_4, cRb0_5, cRb1_5, cRb2_5⟩
      | exact ⟨cRa0_7, cRa1_7, cRa2_7, cRb0_8, cRb1_8, cRb2_8⟩
      | exact ⟨cRa0_10, cRa1_10, cRa2_10, cRb0_11, cRb1_11, cRb2_11⟩
      | exact ⟨zar cRa0_10 (by omega), zar cRa1_10 (by omega), zar cRa2_10 (by omega), zar cRb0_11 (by omega), zar cRb1_11 (by omega), zar cRb2_11 (by omega)⟩)
    (first
      | (go_at_call 95; have hc := (show Calls Tryz.prog 95 #[.slice Aa (lim qa.num.natAbs).length cAa, .slice Ab (lim qb.num.natAbs).length cAb] (World.drew w0) (fun e w' => (∃ v, e = .returned v ∧ IsN w' (World.heap (World.drew w0)).size w'.heap.size v x) ∧ Below (World.heap (World.drew w0)).size (World.drew w0) w') from by rw [Hx.out]; exact zef (zah (zcn Qa_1.out)) (zah (zcn Qb_1.out)) (Nat.le_refl _) (Nat.le_refl _) (Nat.le_trans Hsa.out.1 (by omega)) (Nat.le_trans Hsb.out.1 (by omega))); (with_reducible refine hc.mono ?_); clear hc; rintro e w1 ⟨⟨v1, rfl, hv⟩, hb⟩; have newX := Lib.hid (zay hv sz_1.out); have Qa_2 := Lib.hid (IsQ.stb.next Qa_1.out (hb)); have Ra_2 := Lib.hid (Row.next Ra_1.out (hb)); have Qb_2 := Lib.hid (IsQ.stb.next Qb_1.out (hb)); have Rb_2 := Lib.hid (Row.next Rb_1.out (hb)); have Z_2 := Lib.hid (Row.next Z_1.out (hb)); have bw_2 := Lib.hid (zaa bw_1.out (hb)); have sz_2 := Lib.hid (zaf sz_1.out (hb)); clear Qa_1 Ra_1 Qb_1 Rb_1 Z_1 bw_1 sz_1; have X_0 := newX; clear newX; obtain ⟨P1, k1, rfl, _, _, _⟩ := id hv; clear cRa0_1 cRa1_1 cRa2_1 cRb0_2 cRb1_2 cRb2_2 cZ0_3 cZ1_3 cZ2_3 fZ0_3 fZ1_3 fZ2_3; obtain ⟨cRa0_4, cRa1_4, cRa2_4⟩ := zac Ra_2.out; obtain ⟨cRb0_5, cRb1_5, cRb2_5⟩ := zac Rb_2.out; obtain ⟨cZ0_6, cZ1_6, cZ2_6⟩ := zac Z_2.out; obtain ⟨fZ0_6, fZ1_6, fZ2_6⟩ := zau Z_2.out)
      | (go_at_call 95; have hc := (show Calls Tryz.prog 95 #[.slice Ba (lim qa.den).length cBa, .slice Bb (lim qb.den).length cBb] w1 (fun e w' => (∃ v, e = .returned v ∧ IsN w' (World.heap w1).size w'.heap.size v d) ∧ Below (World.heap w1).size w1 w') from by rw [Hdd.out]; exact zef (zah (zce Qa_2.out)) (zah (zce Qb_2.out)) (Nat.le_refl _) (Nat.le_refl _) (Nat.le_trans Hsa.out.2 (by omega)) (Nat.le_trans Hsb.out.2 (by omega))); (with_reducible refine hc.mono ?_); clear hc; rintro e w2 ⟨⟨v2, rfl, hv2⟩, hb⟩; have newD := Lib.hid (zay hv2 sz_2.out); have Qa_3 := Lib.hid (IsQ.stb.next Qa_2.out (hb)); have Ra_3 := Lib.hid (Row.next Ra_2.out (hb)); have Qb_3 := Lib.hid (IsQ.stb.next Qb_2.out (hb)); have Rb_3 := Lib.hid (Row.next Rb_2.out (hb)); have Z_3 := Lib.hid (Row.next Z_2.out (hb)); have bw_3 := Lib.hid (zaa bw_2.out (hb)); have sz_3 := Lib.hid (zaf sz_2.out (hb)); have X_1 := Lib.hid (IsK.stb.fresh X_0.out (hb)); clear Qa_2 Ra_2 Qb_2 Rb_2 Z_2 bw_2 sz_2 X_0; have D_0 := newD; clear newD; obtain ⟨P2, k2, rfl, _, _, _⟩ := id hv2; clear cRa0_4 cRa1_4 cRa2_4 cRb0_5 cRb1_5 cRb2_5 cZ0_6 cZ1_6 cZ2_6 fZ0_6 fZ1_6 fZ2_6; obtain ⟨cRa0_7, cRa1_7, cRa2_7⟩ := zac Ra_3.out; obtain ⟨cRb0_8, cRb1_8, cRb2_8⟩ := zac Rb_3.out; obtain ⟨cZ0_9, cZ1_9, cZ2_9⟩ := zac Z_3.out; obtain ⟨fZ0_9, fZ1_9, fZ2_9⟩ := zau Z_3.out)
      | (go_at_call 96; have hc := lowest_q (neg := ng) (zah (IsK.stb.old X_1.out)) (zah (IsK.stb.old D_0.out)) Hd0.out Lx.out Ld.out Hq.out; (with_reducible refine hc.mono ?_); clear hc; rintro e w3 ⟨⟨v3, rfl, hv3⟩, hb⟩; have newV := Lib.hid (IsQ.stb.le hv3 sz_3.out); have Qa_4 := Lib.hid (IsQ.stb.next Qa_3.out (hb)); have Ra_4 := Lib.hid (Row.next Ra_3.out (hb)); have Qb_4 := Lib.hid (IsQ.stb.next Qb_3.out (hb)); have Rb_4 := Lib.hid (Row.next Rb_3.out (hb)); have Z_4 := Lib.hid (Row.next Z_3.out (hb)); have bw_4 := Lib.hid (zaa bw_3.out (hb)); have sz_4 := Lib.hid (zaf sz_3.out (hb)); have X_2 := Lib.hid (IsK.stb.fresh X_1.out (hb)); have D_1 := Lib.hid (IsK.stb.fresh D_0.out (hb)); clear Qa_3 Ra_3 Qb_3 Rb_3 Z_3 bw_3 sz_3 X_1 D_0; have V_0 := newV; clear newV; obtain ⟨s3, P3, k3, O3, l3, rfl, _, _, _⟩ := zal hv3; clear cRa0_7 cRa1_7 cRa2_7 cRb0_8 cRb1_8 cRb2_8 cZ0_9 cZ1_9 cZ2_9 fZ0_9 fZ1_9 fZ2_9; obtain ⟨cRa0_10, cRa1_10, cRa2_10⟩ := zac Ra_4.out; obtain ⟨cRb0_11, cRb1_11, cRb2_11⟩ := zac Rb_4.out; obtain ⟨cZ0_12, cZ1_12, cZ2_12⟩ := zac Z_4.out; obtain ⟨fZ0_12, fZ1_12, fZ2_12⟩ := zau Z_4.out))
  go_wp2_with fail
  refine zbd Tryz.results43 rfl rfl (Row.put3 Z_4.out _ _ _) (zep V_0.out bw_4.out (by omega) (by omega))
set_option maxRecDepth 100000 in
set_option maxHeartbeats 2000000 in
theorem raddq {w : World} {va vb : Value} {qa qb qc : Rat} (ha : IsQ w (Old w) va qa) (hb : IsQ w (Old w) vb qb) (hsa : Sz qa 100000) (hsb : Sz qb 100000) (hc : qc = qa + qb) : Calls Tryz.prog 42 #[va, vb] w (RetQ w qc) := by
  have HQa := Lib.hid ha
  obtain ⟨nega, Aa, cAa, Ba, cBa, rfl, Hnega, Hna, Hda⟩ := zal ha
  have HQb := Lib.hid hb
  obtain ⟨negb, Ab, cAb, Bb, cBb, rfl, Hnegb, Hnb, Hdb⟩ := zal hb
  obtain ⟨x, hx⟩ : ∃ x, x = qa.num.natAbs * qb.den := ⟨_, rfl⟩
  obtain ⟨y, hy⟩ : ∃ y, y = qb.num.natAbs * qa.den := ⟨_, rfl⟩
  obtain ⟨d, hd⟩ : ∃ d, d = qa.den * qb.den := ⟨_, rfl⟩
  have Hov : Hid (∀ (neg : Bool) (n : Nat), sg neg n = sg nega x + sg negb y → qc = mkRat (sg neg n) d) := fun neg n h => by rw [hc, hd]; exact (plus_over Hnega.out Hnegb.out (by rw [h, hx, hy])).symm
  have Hx := Lib.hid hx
  have Hy := Lib.hid hy
  have Hdd := Lib.hid hd
  have Hd0 : Hid (d ≠ 0) := by rw [Hid, hd]; exact Nat.mul_ne_zero qa.den_nz qb.den_nz
  have Lx : Hid ((lim x).length ≤ 200000) := by rw [Hid, hx]; exact zen hsa.1 hsb.2
  have Ly : Hid ((lim y).length ≤ 200000) := by rw [Hid, hy]; exact zen hsb.1 hsa.2
  have Ld : Hid ((lim d).length ≤ 2000000) := by rw [Hid, hd]; exact Nat.le_trans (zen hsa.2 hsb.2) (by omega)
  have Hsa := Lib.hid hsa
  have Hsb := Lib.hid hsb
  clear ha hb hc hsa hsb hx hy hd
  obtain ⟨w0, hw0, hb0, ra, rb, rZ, Hz⟩ := zfd w #[.bool nega, .slice Aa (lim qa.num.natAbs).length cAa, .slice Ba (lim qa.den).length cBa] #[.bool negb, .slice Ab (lim qb.num.natAbs).length cAb, .slice Bb (lim qb.den).length cBb] #[.bool false, .slice none 0 0, .slice none 0 0] 31 31 31
  have Qa_0 := Lib.hid (IsQ.stb.next HQa.out hb0)
  have Ra_0 := Lib.hid (ra)
  have Qb_0 := Lib.hid (IsQ.stb.next HQb.out hb0)
  have Rb_0 := Lib.hid (rb)
  have Z_0 := Lib.hid (rZ)
  have bw_0 := Lib.hid (hb0)
  have sz_0 : Hid (w.heap.size + 3 ≤ w0.heap.size) := Lib.hid (Nat.le_of_eq Hz.out.symm)
  clear ra rb rZ hb0
  obtain ⟨cRa0_1, cRa1_1, cRa2_1⟩ := zac Ra_0.out
  obtain ⟨cRb0_2, cRb1_2, cRb2_2⟩ := zac Rb_0.out
  obtain ⟨cZ0_3, cZ1_3, cZ2_3⟩ := zac Z_0.out
  obtain ⟨fZ0_3, fZ1_3, fZ2_3⟩ := zau Z_0.out
  go_enter Tryz.func42, Tryz.ntmps42
  go_wp2_with fail
  clear hw0
  have Qa_1 := Lib.hid (IsQ.stb.next Qa_0.out (zab _))
  have Ra_1 := Lib.hid (Row.next Ra_0.out (zab _))
  have Qb_1 := Lib.hid (IsQ.stb.next Qb_0.out (zab _))
  have Rb_1 := Lib.hid (Row.next Rb_0.out (zab _))
  have Z_1 := Lib.hid (Row.next Z_0.out (zab _))
  have bw_1 := Lib.hid (zaa bw_0.out (zab _))
  have sz_1 := Lib.hid (zaf sz_0.out (zab _))
  clear Qa_0 Ra_0 Qb_0 Rb_0 Z_0 bw_0 sz_0
  go_region_held3 (fun w' => w'.cell? ⟨w.heap.size, 1, none⟩ = some (.slice Aa (lim qa.num.natAbs).length cAa) ∧ w'.cell? ⟨w.heap.size, 2, none⟩ = some (.slice Ba (lim qa.den).length cBa) ∧ w'.cell? ⟨w.heap.size + 1, 1, none⟩ = some (.slice Ab (lim qb.num.natAbs).length cAb) ∧ w'.cell? ⟨w.heap.size + 1, 2, none⟩ = some (.slice Bb (lim qb.den).length cBb))
    (first
      | exact ⟨cRa1_1, cRa2_1, cRb1_2, cRb2_2⟩
      | exact ⟨cRa1_4, cRa2_4, cRb1_5, cRb2_5⟩
      | exact ⟨cRa1_7, cRa2_7, cRb1_8, cRb2_8⟩
      | exact ⟨cRa1_10, cRa2_10, cRb1_11, cRb2_11⟩)
    (first
      | (go_at_call 95; have hc := (show Calls Tryz.prog 95 #[.slice Aa (lim qa.num.natAbs).length cAa, .slice Bb (lim qb.den).length cBb] (World.drew w0) (fun e w' => (∃ v, e = .returned v ∧ IsN w' (World.heap (World.drew w0)).size w'.heap.size v x) ∧ Below (World.heap (World.drew w0)).size (World.drew w0) w') from by rw [Hx.out]; exact zef (zah (zcn Qa_1.out)) (zah (zce Qb_1.out)) (Nat.le_refl _) (Nat.le_refl _) (Nat.le_trans Hsa.out.1 (by omega)) (Nat.le_trans Hsb.out.2 (by omega))); (with_reducible refine hc.mono ?_); clear hc; rintro e w1 ⟨⟨v1, rfl, hv⟩, hb⟩; have newX := Lib.hid (zay hv sz_1.out); have Qa_2 := Lib.hid (IsQ.stb.next Qa_1.out (hb)); have Ra_2 := Lib.hid (Row.next Ra_1.out (hb)); have Qb_2 := Lib.hid (IsQ.stb.next Qb_1.out (hb)); have Rb_2 := Lib.hid (Row.next Rb_1.out (hb)); have Z_2 := Lib.hid (Row.next Z_1.out (hb)); have bw_2 := Lib.hid (zaa bw_1.out (hb)); have sz_2 := Lib.hid (zaf sz_1.out (hb)); clear Qa_1 Ra_1 Qb_1 Rb_1 Z_1 bw_1 sz_1; have X_0 := newX; clear newX; obtain ⟨P1, k1, rfl, _, _, _⟩ := id hv; clear cRa0_1 cRa1_1 cRa2_1 cRb0_2 cRb1_2 cRb2_2 cZ0_3 cZ1_3 cZ2_3 fZ0_3 fZ1_3 fZ2_3; obtain ⟨cRa0_4, cRa1_4, cRa2_4⟩ := zac Ra_2.out; obtain ⟨cRb0_5, cRb1_5, cRb2_5⟩ := zac Rb_2.out; obtain ⟨cZ0_6, cZ1_6, cZ2_6⟩ := zac Z_2.out; obtain ⟨fZ0_6, fZ1_6, fZ2_6⟩ := zau Z_2.out)
      | (go_at_call 95; have hc := (show Calls Tryz.prog 95 #[.slice Ab (lim qb.num.natAbs).length cAb, .slice Ba (lim qa.den).length cBa] w1 (fun e w' => (∃ v, e = .returned v ∧ IsN w' (World.heap w1).size w'.heap.size v y) ∧ Below (World.heap w1).size w1 w') from by rw [Hy.out]; exact zef (zah (zcn Qb_2.out)) (zah (zce Qa_2.out)) (Nat.le_refl _) (Nat.le_refl _) (Nat.le_trans Hsb.out.1 (by omega)) (Nat.le_trans Hsa.out.2 (by omega))); (with_reducible refine hc.mono ?_); clear hc; rintro e w2 ⟨⟨v2, rfl, hv2⟩, hb⟩; have newY := Lib.hid (zay hv2 sz_2.out); have Qa_3 := Lib.hid (IsQ.stb.next Qa_2.out (hb)); have Ra_3 := Lib.hid (Row.next Ra_2.out (hb)); have Qb_3 := Lib.hid (IsQ.stb.next Qb_2.out (hb)); have Rb_3 := Lib.hid (Row.next Rb_2.out (hb)); have Z_3 := Lib.hid (Row.next Z_2.out (hb)); have bw_3 := Lib.hid (zaa bw_2.out (hb)); have sz_3 := Lib.hid (zaf sz_2.out (hb)); have X_1 := Lib.hid (IsK.stb.fresh X_0.out (hb)); clear Qa_2 Ra_2 Qb_2 Rb_2 Z_2 bw_2 sz_2 X_0; have Y_0 := newY; clear newY; obtain ⟨P2, k2, rfl, _, _, _⟩ := id hv2; clear cRa0_4 cRa1_4 cRa2_4 cRb0_5 cRb1_5 cRb2_5 cZ0_6 cZ1_6 cZ2_6 fZ0_6 fZ1_6 fZ2_6; obtain ⟨cRa0_7, cRa1_7, cRa2_7⟩ := zac Ra_3.out; obtain ⟨cRb0_8, cRb1_8, cRb2_8⟩ := zac Rb_3.out; obtain ⟨cZ0_9, cZ1_9, cZ2_9⟩ := zac Z_3.out; obtain ⟨fZ0_9, fZ1_9, fZ2_9⟩ := zau Z_3.out)
      | (go_at_call 95; have hc := (show Calls Tryz.prog 95 #[.slice Ba (lim qa.den).length cBa, .slice Bb (lim qb.den).length cBb] w2 (fun e w' => (∃ v, e = .returned v ∧ IsN w' (World.heap w2).size w'.heap.size v d) ∧ Below (World.heap w2).size w2 w') from by rw [Hdd.out]; exact zef (zah (zce Qa_3.out)) (zah (zce Qb_3.out)) (Nat.le_refl _) (Nat.le_refl _) (Nat.le_trans Hsa.out.2 (by omega)) (Nat.le_trans Hsb.out.2 (by omega))); (with_reducible refine hc.mono ?_); clear hc; rintro e w3 ⟨⟨v3, rfl, hv3⟩, hb⟩; have newD := Lib.hid (zay hv3 sz_3.out); have Qa_4 := Lib.hid (IsQ.stb.next Qa_3.out (hb)); have Ra_4 := Lib.hid (Row.next Ra_3.out (hb)); have Qb_4 := Lib.hid (IsQ.stb.next Qb_3.out (hb)); have Rb_4 := Lib.hid (Row.next Rb_3.out (hb)); have Z_4 := Lib.hid (Row.next Z_3.out (hb)); have bw_4 := Lib.hid (zaa bw_3.out (hb)); have sz_4 := Lib.hid (zaf sz_3.out (hb)); have X_2 := Lib.hid (IsK.stb.fresh X_1.out (hb)); have Y_1 := Lib.hid (IsK.stb.fresh Y_0.out (hb)); clear Qa_3 Ra_3 Qb_3 Rb_3 Z_3 bw_3 sz_3 X_1 Y_0; have D_0 := newD; clear newD; obtain ⟨P3, k3, rfl, _, _, _⟩ := id hv3; clear cRa0_7 cRa1_7 cRa2_7 cRb0_8 cRb1_8 cRb2_8 cZ0_9 cZ1_9 cZ2_9 fZ0_9 fZ1_9 fZ2_9; obtain ⟨cRa0_10, cRa1_10, cRa2_10⟩ := zac Ra_4.out; obtain ⟨cRb0_11, cRb1_11, cRb2_11⟩ := zac Rb_4.out; obtain ⟨cZ0_12, cZ1_12, cZ2_12⟩ := zac Z_4.out; obtain ⟨fZ0_12, fZ1_12, fZ2_12⟩ := zau Z_4.out))
  rcases (by cases nega <;> cases negb <;> simp : (nega == negb) = true ∨ (nega == negb) = false) with hs | hs
  · have Hs : Hid (negb = nega) := by unfold Hid; cases nega <;> cases negb <;> simp at hs ⊢
    obtain ⟨n, hn⟩ : ∃ n, n = x + y := ⟨_, rfl⟩
    have Hq : Hid (qc = mkRat (sg nega n) d) := Hov.out _ _ (by rw [Hs.out, hn, sg_add])
    have Hnl : Hid ((lim n).length ≤ 2000000) := by rw [Hid, hn]; exact Nat.le_trans (sz_add Lx.out Ly.out) (by omega)
    have Hn := Lib.hid hn
    clear hn
    go_wp2_with fail
    have Qa_5 := Lib.hid (IsQ.stb.next Qa_4.out (zab _))
    have Ra_5 := Lib.hid (Row.next Ra_4.out (zab _))
    have Qb_5 := Lib.hid (IsQ.stb.next Qb_4.out (zab _))
    have Rb_5 := Lib.hid (Row.next Rb_4.out (zab _))
    have Z_5 := Lib.hid (Row.next Z_4.out (zab _))
    have bw_5 := Lib.hid (zaa bw_4.out (zab _))
    have sz_5 := Lib.hid (zaf sz_4.out (zab _))
    have X_3 := Lib.hid (IsK.stb.fresh X_2.out (zab _))
    have Y_2 := Lib.hid (IsK.stb.fresh Y_1.out (zab _))
    have D_1 := Lib.hid (IsK.stb.fresh D_0.out (zab _))
    clear Qa_4 Ra_4 Qb_4 Rb_4 Z_4 bw_4 sz_4 X_2 Y_1 D_0
    go_region_held3 (fun w' => w'.cell? ⟨w.heap.size, 0, none⟩ = some (.bool nega))
      (first
        | exact cRa0_10
        | exact cRa0_13
        | exact cRa0_16
        | exact zar cRa0_16 (by omega))
      (first
        | (go_at_call 97; have hc := (show Calls Tryz.prog 97 #[.slice P1 (lim x).length k1, .slice P2 (lim y).length k2] (World.drew w3) (fun e w' => (∃ v, e = .returned v ∧ IsN w' (World.heap (World.drew w3)).size w'.heap.size v n) ∧ Below (World.heap (World.drew w3)).size (World.drew w3) w') from by rw [Hn.out]; exact rplus_n (zah (IsK.stb.old X_3.out)) (zah (IsK.stb.old Y_2.out)) (Nat.le_refl _) (Nat.le_refl _) (Nat.le_trans Lx.out (by omega)) (Nat.le_trans Ly.out (by omega))); (with_reducible refine hc.mono ?_); clear hc; rintro e wp1 ⟨⟨v4, rfl, hv4⟩, hb⟩; have newN := Lib.hid (zay hv4 sz_5.out); have Qa_6 := Lib.hid (IsQ.stb.next Qa_5.out (hb)); have Ra_6 := Lib.hid (Row.next Ra_5.out (hb)); have Qb_6 := Lib.hid (IsQ.stb.next Qb_5.out (hb)); have Rb_6 := Lib.hid (Row.next Rb_5.out (hb)); have Z_6 := Lib.hid (Row.next Z_5.out (hb)); have bw_6 := Lib.hid (zaa bw_5.out (hb)); have sz_6 := Lib.hid (zaf sz_5.out (hb)); have X_4 := Lib.hid (IsK.stb.fresh X_3.out (hb)); have Y_3 := Lib.hid (IsK.stb.fresh Y_2.out (hb)); have D_2 := Lib.hid (IsK.stb.fresh D_1.out (hb)); clear Qa_5 Ra_5 Qb_5 Rb_5 Z_5 bw_5 sz_5 X_3 Y_2 D_1; have N_0 := newN; clear newN; obtain ⟨P4, k4, rfl, _, _, _⟩ := id hv4; clear cRa0_10 cRa1_10 cRa2_10 cRb0_11 cRb1_11 cRb2_11 cZ0_12 cZ1_12 cZ2_12 fZ0_12 fZ1_12 fZ2_12; obtain ⟨cRa0_13, cRa1_13, cRa2_13⟩ := zac Ra_6.out; obtain ⟨cRb0_14, cRb1_14, cRb2_14⟩ := zac Rb_6.out; obtain ⟨cZ0_15, cZ1_15, cZ2_15⟩ := zac Z_6.out; obtain ⟨fZ0_15, fZ1_15, fZ2_15⟩ := zau Z_6.out)
        | (go_at_call 96; have hc := lowest_q (neg := nega) (zah (IsK.stb.old N_0.out)) (zah (IsK.stb.old D_2.out)) Hd0.out Hnl.out Ld.out Hq.out; (with_reducible refine hc.mono ?_); clear hc; rintro e wp2 ⟨⟨v5, rfl, hv5⟩, hb⟩; have newV := Lib.hid (IsQ.stb.le hv5 sz_6.out); have Qa_7 := Lib.hid (IsQ.stb.next Qa_6.out (hb)); have Ra_7 := Lib.hid (Row.next Ra_6.out (hb)); have Qb_7 := Lib.hid (IsQ.stb.next Qb_6.out (hb)); have Rb_7 := Lib.hid (Row.next Rb_6.out (hb)); have Z_7 := Lib.hid (Row.next Z_6.out (hb)); have bw_7 := Lib.hid (zaa bw_6.out (hb)); have sz_7 := Lib.hid (zaf sz_6.out (hb)); have X_5 := Lib.hid (IsK.stb.fresh X_4.out (hb)); have Y_4 := Lib.hid (IsK.stb.fresh Y_3.out (hb)); have D_3 := Lib.hid (IsK.stb.fresh D_2.out (hb)); have N_1 := Lib.hid (IsK.stb.fresh N_0.out (hb)); clear Qa_6 Ra_6 Qb_6 Rb_6 Z_6 bw_6 sz_6 X_4 Y_3 D_2 N_0; have V_0 := newV; clear newV; obtain ⟨s5, P5, k5, O5, l5, rfl, _, _, _⟩ := zal hv5; clear cRa0_13 cRa1_13 cRa2_13 cRb0_14 cRb1_14 cRb2_14 cZ0_15 cZ1_15 cZ2_15 fZ0_15 fZ1_15 fZ2_15; obtain ⟨cRa0_16, cRa1_16, cRa2_16⟩ := zac Ra_7.out; obtain ⟨cRb0_17, cRb1_17, cRb2_17⟩ := zac Rb_7.out; obtain ⟨cZ0_18, cZ1_18, cZ2_18⟩ := zac Z_7.out; obtain ⟨fZ0_18, fZ1_18, fZ2_18⟩ := zau Z_7.out))
    go_wp2_with fail
    refine zbd Tryz.results42 rfl rfl (Row.put3 Z_7.out _ _ _) (zep V_0.out bw_7.out (by omega) (by omega))
  · have Hs : Hid (negb = !nega) := by unfold Hid; cases nega <;> cases negb <;> simp at hs ⊢
    rcases Nat.lt_or_ge x y with hlt | hge
    · have Hlt := Lib.hid hlt
      obtain ⟨n, hn⟩ : ∃ n, n = y - x := ⟨_, rfl⟩
      have Hq : Hid (qc = mkRat (sg negb n) d) := Hov.out _ _ (by rw [Hs.out, hn, sg_sub' (Nat.le_of_lt hlt)]; simp)
      have Hnl : Hid ((lim n).length ≤ 2000000) := by rw [Hid, hn]; exact Nat.le_trans (zav (Nat.sub_le _ _)) (Nat.le_trans Ly.out (by omega))
      have Hn := Lib.hid hn
      have Hsg := Lib.hid (sgn_lt hlt)
      clear hn hlt
      go_wp2_with fail
      refine ((show Calls Tryz.prog 98 #[.slice P1 (lim x).length k1, .slice P2 (lim y).length k2] w3 (fun e w' => e = .returned (.int .i64 (-1)) ∧ Below w3.heap.size w3 w') from by rw [← Hsg.out]; exact (rorder_n (zah (IsK.stb.old X_2.out)) (zah (IsK.stb.old Y_1.out))).mono fun e w' ⟨he, hd⟩ => ⟨he, hd.below _⟩)).mono ?_
      rintro e w4 ⟨rfl, hb⟩
      have Qa_5 := Lib.hid (IsQ.stb.next Qa_4.out (hb))
      have Ra_5 := Lib.hid (Row.next Ra_4.out (hb))
      have Qb_5 := Lib.hid (IsQ.stb.next Qb_4.out (hb))
      have Rb_5 := Lib.hid (Row.next Rb_4.out (hb))
      have Z_5 := Lib.hid (Row.next Z_4.out (hb))
      have bw_5 := Lib.hid (zaa bw_4.out (hb))
      have sz_5 := Lib.hid (zaf sz_4.out (hb))
      have X_3 := Lib.hid (IsK.stb.fresh X_2.out (hb))
      have Y_2 := Lib.hid (IsK.stb.fresh Y_1.out (hb))
      have D_1 := Lib.hid (IsK.stb.fresh D_0.out (hb))
      clear Qa_4 Ra_4 Qb_4 Rb_4 Z_4 bw_4 sz_4 X_2 Y_1 D_0
      clear cRa0_10 cRa1_10 cRa2_10 cRb0_11 cRb1_11 cRb2_11 cZ0_12 cZ1_12 cZ2_12 fZ0_12 fZ1_12 fZ2_12
      obtain ⟨cRa0_13, cRa1_13, cRa2_13⟩ := zac Ra_5.out
      obtain ⟨cRb0_14, cRb1_14, cRb2_14⟩ := zac Rb_5.out
      obtain ⟨cZ0_15, cZ1_15, cZ2_15⟩ := zac Z_5.out
      obtain ⟨fZ0_15, fZ1_15, fZ2_15⟩ := zau Z_5.out
      go_wp2_with fail
      have Qa_6 := Lib.hid (IsQ.stb.next Qa_5.out (zab _))
      have Ra_6 := Lib.hid (Row.next Ra_5.out (zab _))
      have Qb_6 := Lib.hid (IsQ.stb.next Qb_5.out (zab _))
      have Rb_6 := Lib.hid (Row.next Rb_5.out (zab _))
      have Z_6 := Lib.hid (Row.next Z_5.out (zab _))
      have bw_6 := Lib.hid (zaa bw_5.out (zab _))
      have sz_6 := Lib.hid (zaf sz_5.out (zab _))
      have X_4 := Lib.hid (IsK.stb.fresh X_3.out (zab _))
      have Y_3 := Lib.hid (IsK.stb.fresh Y_2.out (zab _))
      have D_2 := Lib.hid (IsK.stb.fresh D_1.out (zab _))
      clear Qa_5 Ra_5 Qb_5 Rb_5 Z_5 bw_5 sz_5 X_3 Y_2 D_1
      go_region_held3 (fun w' => w'.cell? ⟨w.heap.size + 1, 0, none⟩ = some (.bool negb))
        (first
          | exact cRb0_14
          | exact cRb0_17
          | exact cRb0_20
          | exact zar cRb0_20 (by omega))
        (first
          | (go_at_call 99; have hc := (show Calls Tryz.prog 99 #[.slice P2 (lim y).length k2, .slice P1 (lim x).length k1] (World.drew w4) (fun e w' => (∃ v, e = .returned v ∧ IsN w' (World.heap (World.drew w4)).size w'.heap.size v n) ∧ Below (World.heap (World.drew w4)).size (World.drew w4) w') from by rw [Hn.out]; exact rminus_n (zah (IsK.stb.old Y_3.out)) (zah (IsK.stb.old X_4.out)) (Nat.le_refl _) (Nat.le_refl _) (Nat.le_of_lt Hlt.out) (Nat.le_trans Ly.out (by omega))); (with_reducible refine hc.mono ?_); clear hc; rintro e wm1 ⟨⟨v5, rfl, hv5⟩, hb⟩; have newN := Lib.hid (zay hv5 sz_6.out); have Qa_7 := Lib.hid (IsQ.stb.next Qa_6.out (hb)); have Ra_7 := Lib.hid (Row.next Ra_6.out (hb)); have Qb_7 := Lib.hid (IsQ.stb.next Qb_6.out (hb)); have Rb_7 := Lib.hid (Row.next Rb_6.out (hb)); have Z_7 := Lib.hid (Row.next Z_6.out (hb)); have bw_7 := Lib.hid (zaa bw_6.out (hb)); have sz_7 := Lib.hid (zaf sz_6.out (hb)); have X_5 := Lib.hid (IsK.stb.fresh X_4.out (hb)); have Y_4 := Lib.hid (IsK.stb.fresh Y_3.out (hb)); have D_3 := Lib.hid (IsK.stb.fresh D_2.out (hb)); clear Qa_6 Ra_6 Qb_6 Rb_6 Z_6 bw_6 sz_6 X_4 Y_3 D_2; have N_0 := newN; clear newN; obtain ⟨P5, k5, rfl, _, _, _⟩ := id hv5; clear cRa0_13 cRa1_13 cRa2_13 cRb0_14 cRb1_14 cRb2_14 cZ0_15 cZ1_15 cZ2_15 fZ0_15 fZ1_15 fZ2_15; obtain ⟨cRa0_16, cRa1_16, cRa2_16⟩ := zac Ra_7.out; obtain ⟨cRb0_17, cRb1_17, cRb2_17⟩ := zac Rb_7.out; obtain ⟨cZ0_18, cZ1_18, cZ2_18⟩ := zac Z_7.out; obtain ⟨fZ0_18, fZ1_18, fZ2_18⟩ := zau Z_7.out)
          | (go_at_call 96; have hc := lowest_q (neg := negb) (zah (IsK.stb.old N_0.out)) (zah (IsK.stb.old D_3.out)) Hd0.out Hnl.out Ld.out Hq.out; (with_reducible refine hc.mono ?_); clear hc; rintro e wm2 ⟨⟨v6, rfl, hv6⟩, hb⟩; have newV := Lib.hid (IsQ.stb.le hv6 sz_7.out); have Qa_8 := Lib.hid (IsQ.stb.next Qa_7.out (hb)); have Ra_8 := Lib.hid (Row.next Ra_7.out (hb)); have Qb_8 := Lib.hid (IsQ.stb.next Qb_7.out (hb)); have Rb_8 := Lib.hid (Row.next Rb_7.out (hb)); have Z_8 := Lib.hid (Row.next Z_7.out (hb)); have bw_8 := Lib.hid (zaa bw_7.out (hb)); have sz_8 := Lib.hid (zaf sz_7.out (hb)); have X_6 := Lib.hid (IsK.stb.fresh X_5.out (hb)); have Y_5 := Lib.hid (IsK.stb.fresh Y_4.out (hb)); have D_4 := Lib.hid (IsK.stb.fresh D_3.out (hb)); have N_1 := Lib.hid (IsK.stb.fresh N_0.out (hb)); clear Qa_7 Ra_7 Qb_7 Rb_7 Z_7 bw_7 sz_7 X_5 Y_4 D_3 N_0; have V_0 := newV; clear newV; obtain ⟨s6, P6, k6, O6, l6, rfl, _, _, _⟩ := zal hv6; clear cRa0_16 cRa1_16 cRa2_16 cRb0_17 cRb1_17 cRb2_17 cZ0_18 cZ1_18 cZ2_18 fZ0_18 fZ1_18 fZ2_18; obtain ⟨cRa0_19, cRa1_19, cRa2_19⟩ := zac Ra_8.out; obtain ⟨cRb0_20, cRb1_20, cRb2_20⟩ := zac Rb_8.out; obtain ⟨cZ0_21, cZ1_21, cZ2_21⟩ := zac Z_8.out; obtain ⟨fZ0_21, fZ1_21, fZ2_21⟩ := zau Z_8.out))
      go_wp2_with fail
      refine zbd Tryz.results42 rfl rfl (Row.put3 Z_8.out _ _ _) (zep V_0.out bw_8.out (by omega) (by omega))
    · have Hge := Lib.hid hge
      obtain ⟨n, hn⟩ : ∃ n, n = x - y := ⟨_, rfl⟩
      have Hq : Hid (qc = mkRat (sg nega n) d) := Hov.out _ _ (by rw [Hs.out, hn, sg_sub hge])
      have Hnl : Hid ((lim n).length ≤ 2000000) := by rw [Hid, hn]; exact Nat.le_trans (zav (Nat.sub_le _ _)) (Nat.le_trans Lx.out (by omega))
      have Hn := Lib.hid hn
      obtain ⟨r, hr, hr0⟩ : ∃ r, r = sgn x y ∧ 0 ≤ r := by
        refine ⟨_, rfl, ?_⟩
        rcases Nat.lt_or_ge y x with h | h
        · rw [sgn_gt h]; omega
        · rw [sgn_eq (Nat.le_antisymm h hge)]; omega
      have Hsg := Lib.hid hr
      clear hn hge hr
      go_wp2_with fail
      refine ((show Calls Tryz.prog 98 #[.slice P1 (lim x).length k1, .slice P2 (lim y).length k2] w3 (fun e w' => e = .returned (.int .i64 r) ∧ Below w3.heap.size w3 w') from by rw [Hsg.out]; exact (rorder_n (zah (IsK.stb.old X_2.out)) (zah (IsK.stb.old Y_1.out))).mono fun e w' ⟨he, hd⟩ => ⟨he, hd.below _⟩)).mono ?_
      rintro e w4 ⟨rfl, hb⟩
      have Qa_5 := Lib.hid (IsQ.stb.next Qa_4.out (hb))
      have Ra_5 := Lib.hid (Row.next Ra_4.out (hb))
      have Qb_5 := Lib.hid (IsQ.stb.next Qb_4.out (hb))
      have Rb_5 := Lib.hid (Row.next Rb_4.out (hb))
      have Z_5 := Lib.hid (Row.next Z_4.out (hb))
      have bw_5 := Lib.hid (zaa bw_4.out (hb))
      have sz_5 := Lib.hid (zaf sz_4.out (hb))
      have X_3 := Lib.hid (IsK.stb.fresh X_2.out (hb))
      have Y_2 := Lib.hid (IsK.stb.fresh Y_1.out (hb))
      have D_1 := Lib.hid (IsK.stb.fresh D_0.out (hb))
      clear Qa_4 Ra_4 Qb_4 Rb_4 Z_4 bw_4 sz_4 X_2 Y_1 D_0
      clear cRa0_10 cRa1_10 cRa2_10 cRb0_11 cRb1_11 cRb2_11 cZ0_12 cZ1_12 cZ2_12 fZ0_12 fZ1_12 fZ2_12
      obtain ⟨cRa0_13, cRa1_13, cRa2_13⟩ := zac Ra_5.out
      obtain ⟨cRb0_14, cRb1_14, cRb2_14⟩ := zac Rb_5.out
      obtain ⟨cZ0_15, cZ1_15, cZ2_15⟩ := zac Z_5.out
      obtain ⟨fZ0_15, fZ1_15, fZ2_15⟩ := zau Z_5.out
      go_wp2_with fail
      have Qa_6 := Lib.hid (IsQ.stb.next Qa_5.out (zab _))
      have Ra_6 := Lib.hid (Row.next Ra_5.out (zab _))
      have Qb_6 := Lib.hid (IsQ.stb.next Qb_5.out (zab _))
      have Rb_6 := Lib.hid (Row.next Rb_5.out (zab _))
      have Z_6 := Lib.hid (Row.next Z_5.out (zab _))
      have bw_6 := Lib.hid (zaa bw_5.out (zab _))
      have sz_6 := Lib.hid (zaf sz_5.out (zab _))
      have X_4 := Lib.hid (IsK.stb.fresh X_3.out (zab _))
      have Y_3 := Lib.hid (IsK.stb.fresh Y_2.out (zab _))
      have D_2 := Lib.hid (IsK.stb.fresh D_1.out (zab _))
      clear Qa_5 Ra_5 Qb_5 Rb_5 Z_5 bw_5 sz_5 X_3 Y_2 D_1
      go_region_held3 (fun w' => w'.cell? ⟨w.heap.size, 0, none⟩ = some (.bool nega))
        (first
          | exact cRa0_13
          | exact cRa0_16
          | exact cRa0_19
          | exact zar cRa0_19 (by omega))
        (first
          | (go_at_call 99; have hc := (show Calls Tryz.prog 99 #[.slice P1 (lim x).length k1, .slice P2 (lim y).length k2] (World.drew w4) (fun e w' => (∃ v, e = .returned v ∧ IsN w' (World.heap (World.drew w4)).size w'.heap.size v n) ∧ Below (World.heap (World.drew w4)).size (World.drew w4) w') from by rw [Hn.out]; exact rminus_n (zah (IsK.stb.old X_4.out)) (zah (IsK.stb.old Y_3.out)) (Nat.le_refl _) (Nat.le_refl _) Hge.out (Nat.le_trans Lx.out (by omega))); (with_reducible refine hc.mono ?_); clear hc; rintro e wm1 ⟨⟨v5, rfl, hv5⟩, hb⟩; have newN := Lib.hid (zay hv5 sz_6.out); have Qa_7 := Lib.hid (IsQ.stb.next Qa_6.out (hb)); have Ra_7 := Lib.hid (Row.next Ra_6.out (hb)); have Qb_7 := Lib.hid (IsQ.stb.next Qb_6.out (hb)); have Rb_7 := Lib.hid (Row.next Rb_6.out (hb)); have Z_7 := Lib.hid (Row.next Z_6.out (hb)); have bw_7 := Lib.hid (zaa bw_6.out (hb)); have sz_7 := Lib.hid (zaf sz_6.out (hb)); have X_5 := Lib.hid (IsK.stb.fresh X_4.out (hb)); have Y_4 := Lib.hid (IsK.stb.fresh Y_3.out (hb)); have D_3 := Lib.hid (IsK.stb.fresh D_2.out (hb)); clear Qa_6 Ra_6 Qb_6 Rb_6 Z_6 bw_6 sz_6 X_4 Y_3 D_2; have N_0 := newN; clear newN; obtain ⟨P5, k5, rfl, _, _, _⟩ := id hv5; clear cRa0_13 cRa1_13 cRa2_13 cRb0_14 cRb1_14 cRb2_14 cZ0_15 cZ1_15 cZ2_15 fZ0_15 fZ1_15 fZ2_15; obtain ⟨cRa0_16, cRa1_16, cRa2_16⟩ := zac Ra_7.out; obtain ⟨cRb0_17, cRb1_17, cRb2_17⟩ := zac Rb_7.out; obtain ⟨cZ0_18, cZ1_18, cZ2_18⟩ := zac Z_7.out; obtain ⟨fZ0_18, fZ1_18, fZ2_18⟩ := zau Z_7.out)
          | (go_at_call 96; have hc := lowest_q (neg := nega) (zah (IsK.stb.old N_0.out)) (zah (IsK.stb.old D_3.out)) Hd0.out Hnl.out Ld.out Hq.out; (with_reducible refine hc.mono ?_); clear hc; rintro e wm2 ⟨⟨v6, rfl, hv6⟩, hb⟩; have newV := Lib.hid (IsQ.stb.le hv6 sz_7.out); have Qa_8 := Lib.hid (IsQ.stb.next Qa_7.out (hb)); have Ra_8 := Lib.hid (Row.next Ra_7.out (hb)); have Qb_8 := Lib.hid (IsQ.stb.next Qb_7.out (hb)); have Rb_8 := Lib.hid (Row.next Rb_7.out (hb)); have Z_8 := Lib.hid (Row.next Z_7.out (hb)); have bw_8 := Lib.hid (zaa bw_7.out (hb)); have sz_8 := Lib.hid (zaf sz_7.out (hb)); have X_6 := Lib.hid (IsK.stb.fresh X_5.out (hb)); have Y_5 := Lib.hid (IsK.stb.fresh Y_4.out (hb)); have D_4 := Lib.hid (IsK.stb.fresh D_3.out (hb)); have N_1 := Lib.hid (IsK.stb.fresh N_0.out (hb)); clear Qa_7 Ra_7 Qb_7 Rb_7 Z_7 bw_7 sz_7 X_5 Y_4 D_3 N_0; have V_0 := newV; clear newV; obtain ⟨s6, P6, k6, O6, l6, rfl, _, _, _⟩ := zal hv6; clear cRa0_16 cRa1_16 cRa2_16 cRb0_17 cRb1_17 cRb2_17 cZ0_18 cZ1_18 cZ2_18 fZ0_18 fZ1_18 fZ2_18; obtain ⟨cRa0_19, cRa1_19, cRa2_19⟩ := zac Ra_8.out; obtain ⟨cRb0_20, cRb1_20, cRb2_20⟩ := zac Rb_8.out; obtain ⟨cZ0_21, cZ1_21, cZ2_21⟩ := zac Z_8.out; obtain ⟨fZ0_21, fZ1_21, fZ2_21⟩ := zau Z_8.out))
      go_wp2_with fail
      refine zbd Tryz.results42 rfl rfl (Row.put3 Z_8.out _ _ _) (zep V_0.out bw_8.out (by omega) (by omega))
theorem gap_fits {q : Rat} (h : Sz q 1024) : gapR q = raw q ∧ gapE q = 0 := by
  unfold gapR gapE
  rw [if_pos (fitsQ_true.2 h), if_pos (fitsQ_true.2 h)]
  exact ⟨rfl, rfl⟩
theorem sumP_from (l : List (Rat × Rat)) : ∀ s : Rat, l.foldl (fun s p => s + p.1 * p.2) s = s + sumP l := by
  induction l with
  | nil => intro s; simp only [List.foldl_nil, sumP]; grind
  | cons p l ih =>
    intro s
    have h1 := ih (s + p.1 * p.2)
    have h2 := ih (0 + p.1 * p.2)
    simp only [sumP, List.foldl_cons] at h1 h2 ⊢
    rw [h1, h2]
    grind
theorem zeh (x y : Rat) (a b : List Rat) : dotQ (x :: a) (y :: b) = x * y + dotQ a b := by
  have h := sumP_from (a.zip b) (0 + x * y)
  unfold dotQ
  rw [List.zip_cons_cons]
  simp only [sumP, List.foldl_cons] at h ⊢
  rw [h]
  grind
theorem dotQ_nilL (b : List Rat) : dotQ [] b = 0 := rfl
theorem zei (a : List Rat) : dotQ a [] = 0 := by cases a <;> rfl
theorem dotQ_comm (a : List Rat) : ∀ b : List Rat, dotQ a b = dotQ b a := by
  induction a with
  | nil => intro b; rw [dotQ_nilL, zei]
  | cons x a ih =>
    intro b
    cases b with
    | nil => rw [dotQ_nilL, zei]
    | cons y b => rw [zeh, zeh, ih b]; grind
theorem dotQ_add (u : List Rat) : ∀ w v : List Rat, u.length = w.length → dotQ (addQ u w) v = dotQ u v + dotQ w v := by
  induction u with
  | nil =>
    intro w v h
    cases w with
    | nil => rw [show addQ [] [] = ([] : List Rat) from rfl, dotQ_nilL]; grind
    | cons y w => simp at h
  | cons x u ih =>
    intro w v h
    cases w with
    | nil => simp at h
    | cons y w =>
      cases v with
      | nil => rw [zei, zei, zei]; grind
      | cons z v =>
        rw [show addQ (x :: u) (y :: w) = (x + y) :: addQ u w from rfl, zeh, zeh, zeh, ih w v (by simpa using h)]
        grind
theorem dotQ_scale (x : Rat) (u : List Rat) : ∀ v : List Rat, dotQ (zeb u x) v = dotQ u v * x := by
  induction u with
  | nil => intro v; rw [show zeb [] x = ([] : List Rat) from rfl, dotQ_nilL]; grind
  | cons y u ih =>
    intro v
    cases v with
    | nil => rw [zei, zei]; grind
    | cons z v => rw [show zeb (y :: u) x = (y * x) :: zeb u x from rfl, zeh, zeh, ih v]; grind
theorem turnQ_get {M : List (List Rat)} {m i : Nat} (h : i < (zdr M m).length) : (zdr M m)[i] = colT M i := by simp [zdr]
theorem colT_get {M : List (List Rat)} {i c : Nat} (h : c < (colT M i).length) (h2 : c < M.length) : (colT M i)[c] = M[c].getD i 0 := by simp [colT]
theorem turn_turn {b : List (List Rat)} {n m : Nat} (hn : b.length = n) (hrow : ∀ r ∈ b, r.length = m) : zdr (zdr b m) n = b := by
  apply List.ext_getElem
  · rw [zdj, hn]
  · intro i h1 h2
    rw [turnQ_get]
    apply List.ext_getElem
    · rw [colT_len, zdj, hrow _ (List.getElem_mem h2)]
    · intro c h3 h4
      have h5 : c < (zdr b m).length := by rw [colT_len] at h3; exact h3
      rw [colT_get h3 h5, turnQ_get, List.getD_eq_getElem?_getD, List.getElem?_eq_getElem (by rw [colT_len]; exact h2), Option.getD_some, colT_get (by rw [colT_len]; exact h2) h2, List.getD_eq_getElem?_getD, List.getElem?_eq_getElem h4, Option.getD_some]
theorem turn_mul {b c : List (List Rat)} {n m : Nat} (hb : b.length = n) (hbr : ∀ r ∈ b, r.length = m) (hc : c.length = m) (hcr : ∀ r ∈ c, r.length = n) : zdr (mulQ b c n) n = mulQ (zdr c n) (zdr b m) n := by
  have e : mulQ (zdr c n) (zdr b m) n = (zdr c n).map fun r => b.map (dotQ r) := by
    unfold mulQ lineQ
    rw [turn_turn hb hbr]
  rw [e]
  show (List.range n).map (colT (mulQ b c n)) = ((List.range n).map (colT c)).map fun r => b.map (dotQ r)
  rw [List.map_map]
  refine List.map_congr_left fun j hj => ?_
  have hj := List.mem_range.1 hj
  show (mulQ b c n).map (fun r => r.getD j 0) = b.map (dotQ (colT c j))
  unfold mulQ
  rw [List.map_map]
  refine List.map_congr_left fun r hr => ?_
  show (lineQ r c n).getD j 0 = dotQ (colT c j) r
  rw [List.getD_eq_getElem?_getD, lineQ_at (c := colT c j) (by unfold zdr; rw [List.getElem?_map, List.getElem?_range hj]; rfl), Option.getD_some, dotQ_comm]
theorem dotQ_little {a b : List Rat} {k : Nat} (hl : a.length ≤ 5) (ha : ∀ q ∈ a, Sz q k) (hb : ∀ q ∈ b, Sz q k) (hk : k ≤ 90) : Sz (dotQ a b) 1024 := by
  refine (sumP_sz (n := k) fun p hp => ⟨ha _ (List.of_mem_zip hp).1, hb _ (List.of_mem_zip hp).2⟩).le ?_
  have h1 : (a.zip b).length ≤ 5 := by rw [List.length_zip]; omega
  have h2 := Nat.mul_le_mul h1 (show 2 * k + 1 ≤ 181 by omega)
  omega
theorem mulQ_little {a b : List (List Rat)} {m p k : Nat} (har : ∀ r ∈ a, r.length = m) (hbl : b.length = m) (hm : m ≤ 5) (hbr : ∀ r ∈ b, r.length = p) (ha : ∀ r ∈ a, ∀ q ∈ r, Sz q k) (hb : ∀ r ∈ b, ∀ q ∈ r, Sz q k) (hk : k ≤ 90) : ∀ r ∈ mulQ a b p, ∀ q ∈ r, Sz q 1024 := by
  intro r hr q hq
  obtain ⟨r1, hr1, rfl⟩ := List.mem_map.1 hr
  obtain ⟨c, hc, rfl⟩ := List.mem_map.1 hq
  exact dotQ_little (k := k) (by rw [har r1 hr1]; exact hm) (ha r1 hr1) (turnQ_sz hbr hb c hc) hk
theorem mulQ_row {a b : List (List Rat)} {p : Nat} : ∀ r ∈ mulQ a b p, r.length = p := by
  intro r hr
  obtain ⟨r1, hr1, rfl⟩ := List.mem_map.1 hr
  exact lineQ_len _ _ _
theorem bothE_raw {a b : List Rat} (ha : a.length ≤ 40) (hl : a.length = b.length) (sa : ∀ q ∈ a, Sz q 1024) (sb : ∀ q ∈ b, Sz q 1024) : bothE (rawV a) (rawV b) = 0 := by
  unfold bothE
  have e1 : chkV (rawV a) = 0 := chkV_raw ha sa
  have e2 : chkV (rawV b) = 0 := chkV_raw (by omega) sb
  rw [if_neg (by rw [e1]; simp), if_neg (by rw [e2]; simp), if_neg (by rw [zbp, zbp]; simpa using hl)]
theorem vDot_q {w : World} {va vb : Value} {a b : List Rat} {d : Rat} (ha : IsV w (Old w) va (rawV a)) (hb : IsV w (Old w) vb (rawV b)) (hB : Bru w) (hla : a.length ≤ 40) (hlb : a.length = b.length) (sa : ∀ q ∈ a, Sz q 1024) (sb : ∀ q ∈ b, Sz q 1024) (hd : d = dotQ a b) (sd : Sz d 1024) :
    Calls Tryz.prog 31 #[va, vb] w fun e w' => (∃ v, e = .returned (.tuple #[v, .int .i64 0]) ∧ IsR w' (Old w') v (raw d)) ∧ Below w.heap.size w w' := by
  have h := vDot_good (M := a.length) ha hb hB (bothE_raw hla hlb sa sb) rfl hlb.symm hla sa sb hd
  rw [(gap_fits sd).1, (gap_fits sd).2] at h
  exact h
theorem ratof_i {w : World} (a b : Int) (ha : a.natAbs ≤ 1000000) (hb : 1 ≤ b) (hb1 : b ≤ 1000000) :
    Calls Tryz.prog 51 #[.int .i64 a, .int .i64 b] w fun e w' => (∃ v, e = .returned v ∧ IsQ w' (New w.heap.size w') v (zdd a b.toNat)) ∧ Below w.heap.size w w' := by
  have e : b = ((b.toNat : Nat) : Int) := by omega
  rw [e]
  exact (ratof_q (a := a) (b := b.toNat) (by omega) (by omega) (by omega)).mono fun e w' ⟨⟨v, he, hv⟩, h⟩ => ⟨⟨v, he, by rw [Int.toNat_natCast]; exact hv⟩, h⟩
def Drawn (K : Nat) (q : Rat) : Prop := ∃ (a : Int) (b : Nat), a.natAbs ≤ K ∧ 1 ≤ b ∧ b ≤ K ∧ q = zdd a b
theorem Drawn.sz {K : Nat} {q : Rat} (h : Drawn K q) (hK : K ≤ 1000000) : Sz q 1 := by
  obtain ⟨a, b, h1, h2, h3, rfl⟩ := h
  exact sz_of_mk (by omega) (lim_len_le.2 (by unfold pw; omega)) (lim_len_le.2 (by unfold pw; omega))
def Twelve (B : Nat) (q : Rat) : Prop := ∃ z : Int, q * 12 = (z : Rat) ∧ z.natAbs ≤ B
theorem Twelve.le {B C : Nat} {q : Rat} (h : Twelve B q) (hB : B ≤ C) : Twelve C q := by
  obtain ⟨z, h1, h2⟩ := h
  exact ⟨z, h1, Nat.le_trans h2 hB⟩
theorem Twelve.add {B C : Nat} {p q : Rat} (h : Twelve B p) (k : Twelve C q) : Twelve (B + C) (p + q) := by
  obtain ⟨z, h1, h2⟩ := h
  obtain ⟨y, k1, k2⟩ := k
  refine ⟨z + y, by rw [Rat.intCast_add, ← h1, ← k1]; grind, by omega⟩
theorem Twelve.mk {B : Nat} {q : Rat} (h : Twelve B q) : ∃ z : Int, q = mkRat z 12 ∧ z.natAbs ≤ B := by
  obtain ⟨z, h1, h2⟩ := h
  refine ⟨z, ?_, h2⟩
  rw [Rat.mkRat_eq_div, ← h1]
  have : ((12 : Nat) : Rat) = 12 := rfl
  rw [this]
  grind
theorem Twelve.sz {B : Nat} {q : Rat} (h : Twelve B q) (hB : B ≤ 1000000) : Sz q 1 := by
  obtain ⟨z, rfl, h2⟩ := h.mk
  exact sz_of_mk (by omega) (lim_len_le.2 (by unfold pw; omega)) (lim_len_le.2 (by unfold pw; omega))
theorem Drawn.twelve {q : Rat} (h : Drawn 4 q) : Twelve 48 q := by
  obtain ⟨a, b, h1, h2, h3, rfl⟩ := h
  unfold zdd
  have hb : b = 1 ∨ b = 2 ∨ b = 3 ∨ b = 4 := by omega
  rcases hb with rfl | rfl | rfl | rfl
  · exact ⟨a * 12, by rw [Rat.mkRat_eq_div, Rat.intCast_mul]; show (a : Rat) / 1 * 12 = _ * 12; grind, by omega⟩
  · exact ⟨a * 6, by rw [Rat.mkRat_eq_div, Rat.intCast_mul]; show (a : Rat) / 2 * 12 = _ * 6; grind, by omega⟩
  · exact ⟨a * 4, by rw [Rat.mkRat_eq_div, Rat.intCast_mul]; show (a : Rat) / 3 * 12 = _ * 4; grind, by omega⟩
  · exact ⟨a * 3, by rw [Rat.mkRat_eq_div, Rat.intCast_mul]; show (a : Rat) / 4 * 12 = _ * 3; grind, by omega⟩
def DrewR {α : Type} (R : World → (Nat → Prop) → Value → α → Prop) (P : α → Prop) (w : World) (g : Nat) (l : List Int) (e : Ending) (w' : World) : Prop := (∃ v x, e = .returned v ∧ R w' (New w.heap.size w') v x ∧ P x) ∧ IsD w' g l ∧ w.grownBy w' (some g)
theorem OwnS.drawn {α : Type} {n : Nat} {t : TypeId} {R : World → (Nat → Prop) → Value → α → Prop} (hR : Stb R) {w w' : World} {base : Nat} {S : Nat → Prop} {v : Value} {l : List α} {g : Nat} (h : OwnS n t R w base S v l) (hS : ∀ b, S b → base ≤ b) (hb : w.grownBy w' (some g)) (hg : g < base) :
    OwnS n t R w' base (fun b => S b ∨ (w.heap.size ≤ b ∧ b < w'.heap.size)) v l := by
  have h1 := h.grown hR hb fun b e => ⟨fun e' => by have := (OwnS.own_lt h b e').1; cases e; omega, fun hs => by have := hS b hs; cases e; omega⟩
  refine h1.wider hR (fun b h => .inl h) fun b hb' => ?_
  rcases hb' with hs | ⟨h2, h3⟩
  · obtain ⟨_, _, _, _, h4⟩ := h1
    exact h4 b hs
  · exact ⟨h3, fun e => by have := (OwnS.own_lt h b e.symm).2; omega⟩
set_option maxRecDepth 100000 in
set_option maxHeartbeats 2000000 in
theorem rational_q {w : World} {g : Nat} {l : List Int} (hD : IsD w g l) {K : Int} (hK : K = 4 ∨ K = 5) : Calls Tryz.prog 41 #[.pointer (some ⟨g, 0, none⟩), .int .i64 K] w (DrewR IsQ (Drawn K.toNat) w g l) := by
  have hgw := hD.lt
  obtain ⟨w0, hw0, hb0, rZ, Hz⟩ := zbq w #[.bool false, .slice none 0 0, .slice none 0 0] 31
  have D0 := Lib.hid (hD.next hb0 hgw)
  have B0 := Lib.hid hb0
  have RZ := Lib.hid rZ
  clear hD hb0 rZ
  rcases hK with rfl | rfl
  · go_enter Tryz.func41, Tryz.ntmps41
    go_wp2_with fail
    clear hw0
    refine (next_i D0.out 9 (by omega) (by omega)).mono ?_
    rintro e w1 ⟨⟨x, hx0, hx1, rfl⟩, hD1, hO1⟩
    have D1 := Lib.hid hD1
    have G1 := Lib.hid hO1.grown
    have RZ1 := Lib.hid (RZ.out.grownN hO1.grown fun b e => by cases e; omega)
    clear hD1 hO1
    go_wp2_with fail
    refine (next_i D1.out 4 (by omega) (by omega)).mono ?_
    rintro e w2 ⟨⟨y, hy0, hy1, rfl⟩, hD2, hO2⟩
    have D2 := Lib.hid hD2
    have G2 := Lib.hid (zas G1.out hO2.grown)
    have RZ2 := Lib.hid (RZ1.out.grownN hO2.grown fun b e => by cases e; omega)
    clear hD2 hO2
    go_wp2_with fail
    refine (ratof_i (x - 4) (1 + y) (by omega) (by omega) (by omega)).mono ?_
    rintro e w3 ⟨⟨v3, rfl, hv3⟩, hb3⟩
    have V3 := Lib.hid hv3
    have Hsq : Hid (Drawn 4 (zdd (x - 4) (1 + y).toNat)) := ⟨_, _, by omega, by omega, by omega, rfl⟩
    have D3 := Lib.hid (D2.out.next hb3 D2.out.lt)
    have RZ3 := Lib.hid (RZ2.out.next hb3)
    have G3 := Lib.hid (zas (zas (zbf (row := some g) B0.out) G2.out) (zbf hb3))
    obtain ⟨s3, P3, k3, O3, l3, rfl, _, _, _⟩ := zal hv3
    obtain ⟨d0, d1, d2⟩ := zac RZ3.out
    obtain ⟨f0, f1, f2⟩ := zau RZ3.out
    have hz2 : w.heap.size < w2.heap.size := RZ2.out.lt
    clear hb3 hv3
    go_wp2_with fail
    refine zbd Tryz.results41 rfl rfl (Row.put3 RZ3.out _ _ _) ⟨⟨_, _, rfl, IsQ.stb.to V3.out (zcl fun b hb => ⟨by have := hb.1; omega, ⟨by have := hb.1; omega, by rw [zco]; exact hb.2⟩⟩), Hsq.out⟩, ((D3.out.far (p := ⟨w.heap.size, 0, none⟩) hgw _).far (p := ⟨w.heap.size, 1, none⟩) hgw _).far (p := ⟨w.heap.size, 2, none⟩) hgw _, zcr (zcr (zcr G3.out (Nat.le_refl _) _ _) (Nat.le_refl _) _ _) (Nat.le_refl _) _ _⟩
  · go_enter Tryz.func41, Tryz.ntmps41
    go_wp2_with fail
    clear hw0
    refine (next_i D0.out 11 (by omega) (by omega)).mono ?_
    rintro e w1 ⟨⟨x, hx0, hx1, rfl⟩, hD1, hO1⟩
    have D1 := Lib.hid hD1
    have G1 := Lib.hid hO1.grown
    have RZ1 := Lib.hid (RZ.out.grownN hO1.grown fun b e => by cases e; omega)
    clear hD1 hO1
    go_wp2_with fail
    refine (next_i D1.out 5 (by omega) (by omega)).mono ?_
    rintro e w2 ⟨⟨y, hy0, hy1, rfl⟩, hD2, hO2⟩
    have D2 := Lib.hid hD2
    have G2 := Lib.hid (zas G1.out hO2.grown)
    have RZ2 := Lib.hid (RZ1.out.grownN hO2.grown fun b e => by cases e; omega)
    clear hD2 hO2
    go_wp2_with fail
    refine (ratof_i (x - 5) (1 + y) (by omega) (by omega) (by omega)).mono ?_
    rintro e w3 ⟨⟨v3, rfl, hv3⟩, hb3⟩
    have V3 := Lib.hid hv3
    have Hsq : Hid (Drawn 5 (zdd (x - 5) (1 + y).toNat)) := ⟨_, _, by omega, by omega, by omega, rfl⟩
    have D3 := Lib.hid (D2.out.next hb3 D2.out.lt)
    have RZ3 := Lib.hid (RZ2.out.next hb3)
    have G3 := Lib.hid (zas (zas (zbf (row := some g) B0.out) G2.out) (zbf hb3))
    obtain ⟨s3, P3, k3, O3, l3, rfl, _, _, _⟩ := zal hv3
    obtain ⟨d0, d1, d2⟩ := zac RZ3.out
    obtain ⟨f0, f1, f2⟩ := zau RZ3.out
    have hz2 : w.heap.size < w2.heap.size := RZ2.out.lt
    clear hb3 hv3
    go_wp2_with fail
    refine zbd Tryz.results41 rfl rfl (Row.put3 RZ3.out _ _ _) ⟨⟨_, _, rfl, IsQ.stb.to V3.out (zcl fun b hb => ⟨by have := hb.1; omega, ⟨by have := hb.1; omega, by rw [zco]; exact hb.2⟩⟩), Hsq.out⟩, ((D3.out.far (p := ⟨w.heap.size, 0, none⟩) hgw _).far (p := ⟨w.heap.size, 1, none⟩) hgw _).far (p := ⟨w.heap.size, 2, none⟩) hgw _, zcr (zcr (zcr G3.out (Nat.le_refl _) _ _) (Nat.le_refl _) _ _) (Nat.le_refl _) _ _⟩
set_option maxRecDepth 100000 in
set_option maxHeartbeats 2000000 in
theorem vectorOf_l {w : World} {g : Nat} {l : List Int} (hD : IsD w g l) {n : Nat} (hn : n ≤ 40) : Calls Tryz.prog 40 #[.pointer (some ⟨g, 0, none⟩), .int .i64 (n : Int)] w (DrewR IsV (fun a => ∃ q : List Rat, a = rawV q ∧ q.length = n ∧ ∀ x ∈ q, Drawn 4 x) w g l) := by
  have hgw := hD.lt
  have D0 := Lib.hid hD
  clear hD
  go_enter Tryz.func40, Tryz.ntmps40
  go_wp2_with fail
  go_loopw [6, 5] (fun i ov wr => ∃ (k : Nat) (S : Nat → Prop) (q : List Rat), k ≤ n ∧ i = .int .i64 (k : Int) ∧ w.grownBy wr (some g) ∧ IsD wr g l ∧ Hid (OwnS 3 31 IsR wr w.heap.size S ov (rawV q)) ∧ Hid (q.length = k ∧ (∀ x ∈ q, Drawn 4 x) ∧ ∀ b, S b → w.heap.size ≤ b)) (fun i _ _ => n - (intOf i).toNat)
  case atStart => exact ⟨0, fun _ => False, [], Nat.zero_le _, rfl, zag _ _, D0.out, OwnS.nil (fun b hb => hb.elim), rfl, (fun _ h => by cases h), fun b hb => hb.elim⟩
  case round =>
    obtain ⟨k, S, q, hk, rfl, hgr, hD, hown, hq⟩ := hrel
    have G := Lib.hid hgr
    have D := Lib.hid hD
    have Own := Lib.hid hown.out
    clear hgr hD hown
    rcases Nat.lt_or_ge k n with hlt | hge
    · have Hlt := Lib.hid hlt
      go_wp2_with fail
      refine (rational_q D.out (.inl rfl)).mono ?_
      rintro e w2 ⟨⟨v2, x, rfl, hv2, hsx⟩, hD2, hg2⟩
      have D2 := Lib.hid hD2
      have G2 := Lib.hid (zas G.out hg2)
      have hown2 := OwnS.drawn IsR.stb Own.out hq.out.2.2 hg2 hgw
      have hel2 := IsQ.stb.to hv2 (zba (T := fun b => S b ∨ (wr.heap.size ≤ b ∧ b < w2.heap.size)) fun b h => .inr h)
      obtain ⟨s2, P2, k2, O2, l2, rfl, _, _, _⟩ := zal hv2
      have hbase : w.heap.size ≤ w2.heap.size := G2.out.size
      have hzw : w.heap.size ≤ wr.heap.size := G.out.size
      have hql := hq.out.1
      have Hsx := Lib.hid hsx
      clear hD2 hg2 hv2 hsx hlt
      go_wp2_with (at_builtin; refine zcj elR rfl _ _ rfl IsR.stb rfl rfl rfl hown2 hel2 rfl (by intro u hu; simp [Value.cells] at hu; rcases hu with rfl | rfl | rfl <;> rfl) (by rw [zbp]; omega) hbase ?_; intro v6 w6 hown6 hb6 hz6)
      go_roundw
      case rel =>
        refine ⟨k + 1, fun b => S b ∨ (wr.heap.size ≤ b ∧ b < w2.heap.size), q ++ [x], Hlt.out, by go_num, zff G2.out hb6, D2.out.next hb6 hgw, by rw [Hid, zdh]; exact hown6, by simp [hql], fun y hy => ?_, fun b hb => by rcases hb with hb | hb; exact hq.out.2.2 b hb; exact Nat.le_trans hzw hb.1⟩
        rcases List.mem_append.1 hy with h | h
        · exact hq.out.2.1 y h
        · rw [List.mem_singleton.1 h]; exact Hsx.out
      case measure => have := Hlt.out; simp [intOf]; omega
    · obtain rfl : k = n := by omega
      have hlt : ¬ k < k := by omega
      have hV : IsV wr (New w.heap.size wr) _ (rawV q) := OwnS.isS IsR.stb (T := New w.heap.size wr) Own.out (fun b hb => ⟨hq.out.2.2 b hb, by obtain ⟨_, _, _, _, h4⟩ := Own.out; exact (h4 b hb).1⟩) (fun b h1 h2 => ⟨h1, h2⟩)
      have HV := Lib.hid hV
      clear hV
      go_wp2_with fail
      go_ret
      exact ⟨⟨_, _, rfl, HV.out, q, rfl, hq.out.1, hq.out.2.1⟩, D.out, G.out⟩
end Go.Proofs.YtblpaocignlpkaaGreatDoor
