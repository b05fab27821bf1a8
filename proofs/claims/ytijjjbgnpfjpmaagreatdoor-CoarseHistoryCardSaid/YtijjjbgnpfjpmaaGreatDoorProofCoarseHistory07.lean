/-
  Contracts of the reference's functions on rational numbers: Lowest, Minus, Plus, Times, Order, Zero.
-/
import Derived.Test.YtijjjbgnpfjpmaaGreatDoorCoh01
import Derived.Test.YtijjjbgnpfjpmaaGreatDoorCoh03
import Derived.Test.YtijjjbgnpfjpmaaGreatDoorCoh04
import Derived.Test.YtijjjbgnpfjpmaaGreatDoorProofCoarseHistory06
import Derived.Test.YtijjjbgnpfjpmaaGreatDoorCoh02
import Derived.Test.YtijjjbgnpfjpmaaGreatDoorProofCoarseHistory01
import Derived.Test.YtijjjbgnpfjpmaaGreatDoorProofCoarseHistory03
import Derived.Test.YtijjjbgnpfjpmaaGreatDoorProofCoarseHistory05
import Derived.BigQuiet
import Derived.Deep.QuietTactic
import Derived.RangeFuncFrom
import Derived.RangeFuncNested
import Derived.Test.YtijjjbgnpfjpmaaGreatDoorProofCoarseHistory04
namespace Go.Proofs.YtijjjbgnpfjpmaaGreatDoor
open Go.RowKit
set_option linter.unusedVariables false
theorem lit_one (w : World) : NumS (w.alloc (.cells #[.int .u32 1] 160)) (New w.heap.size (w.alloc (.cells #[.int .u32 1] 160))) (.slice (some ⟨w.heap.size, 0, none⟩) 1 1) 1 := by
  have h := isL_new .u32 w 160 [1] (by unfold maxLen; decide)
  unfold NumS
  rw [zea]
  exact IsL.isK h fun b h1 h2 => ⟨h1, by rw [World.size_alloc]; exact h2⟩
set_option maxHeartbeats 1000000 in
theorem zeh {w : World} {va vb : Value} {n d : Nat} {neg : Bool} {q : Rat} (ha : IsN w 0 w.heap.size va n) (hb : IsN w 0 w.heap.size vb d) (hd0 : d ≠ 0) (hn : (lim n).length ≤ 2000000) (hd : (lim d).length ≤ 2000000) (hq : q = mkRat (sg neg n) d) : Calls Tryz.prog 103 #[.bool neg, va, vb] w (RetQ w q) := by
  have Ha := Lib.hid ha
  have Hb := Lib.hid hb
  have Hn := Lib.hid hn
  have Hd := Lib.hid hd
  obtain ⟨A, cA, rfl, _, _, _⟩ := ha
  obtain ⟨B, cB, rfl, _, _, _⟩ := hb
  clear hn hd
  obtain ⟨w0, hw0, hb0, rZ, Hz⟩ := zao w #[.bool false, .slice none 0 0, .slice none 0 0] 30
  have Z_0 := Lib.hid (rZ)
  have bw_0 := Lib.hid (hb0)
  have sz_0 : Hid (w.heap.size + 1 ≤ w0.heap.size) := Lib.hid (Nat.le_of_eq Hz.out.symm)
  clear rZ hb0
  obtain ⟨cZ0_1, cZ1_1, cZ2_1⟩ := zab Z_0.out
  obtain ⟨fZ0_1, fZ1_1, fZ2_1⟩ := zan Z_0.out
  have A_0 := Lib.hid (IsN.next Ha.out bw_0.out)
  have D_0 := Lib.hid (IsN.next Hb.out bw_0.out)
  by_cases h0 : n = 0
  · have e0 := len_zero h0
    have Hq : Hid (q = 0) := by rw [Hid, hq, h0, sg_zero, Rat.zero_mkRat]
    clear h0 hq
    obtain ⟨d0, d1, d2⟩ := zab (Row.alloc Z_0.out (.cells #[.int .u32 1] 160))
    obtain ⟨d3, d4, d5⟩ := zan (Row.alloc Z_0.out (.cells #[.int .u32 1] 160))
    go_enter Tryz.func103, Tryz.ntmps103
    go_wp2_with fail
    rw [Hq.out]
    refine zct Tryz.results103 rfl rfl (Row.put3 (Row.alloc Z_0.out _) _ _ _) (retQ (n := 0) (d := 1) (by rw [raw_zero, lim_zero, zea]) (below_stepA bw_0.out _) (Nat.le_refl _) (numS_zero (S := New (w.heap.size + 1) _)) (lit_one w0) og (oh Hz))
  · have e0 := len_pos h0
    obtain ⟨G, hG⟩ : ∃ G, G = Nat.gcd n d := ⟨_, rfl⟩
    have Hr : Hid (raw q = ⟨neg, lim (n / G), lim (d / G)⟩) := by rw [Hid, hq, hG]; exact raw_ratio h0 hd0
    have HGp : Hid (0 < G) := by rw [Hid, hG]; exact Nat.gcd_pos_of_pos_right _ og
    have HG := Lib.hid hG
    clear h0 hG hq
    go_enter Tryz.func103, Tryz.ntmps103
    go_wp2_with fail
    clear hw0
    refine ((show Calls Tryz.prog 152 #[.slice A (lim n).length cA, .slice B (lim d).length cB] w0 (fun e w' => (∃ v, e = .returned v ∧ IsN w' 0 w'.heap.size v G) ∧ Below w0.heap.size w0 w') from by rw [HG.out]; exact rcommon_n A_0.out D_0.out (Nat.le_trans Hn.out og) (Nat.le_trans Hd.out og))).mono ?_
    rintro e w1 ⟨⟨v1, rfl, hv⟩, hb⟩
    have G_0 := Lib.hid (hv)
    obtain ⟨P1, k1, rfl, _, _, _⟩ := id hv
    obtain ⟨cZ0_2, cZ1_2, cZ2_2⟩ := zab (uR w1 Z_0)
    obtain ⟨fZ0_2, fZ1_2, fZ2_2⟩ := zan (uR w1 Z_0)
    go_wp2_with fail
    refine (rover_f (uN w1 A_0) G_0.out HGp.out (Nat.le_trans Hn.out og)).mono ?_
    rintro e w2 ⟨⟨v2, v2r, rfl, hv2, _⟩, hb⟩
    have N_0 := Lib.hid (zce hv2 (uS w1 sz_0))
    obtain ⟨P2, k2, rfl, _, _, _⟩ := id hv2
    obtain ⟨cZ0_3, cZ1_3, cZ2_3⟩ := zab (uR w2 Z_0)
    obtain ⟨fZ0_3, fZ1_3, fZ2_3⟩ := zan (uR w2 Z_0)
    go_wp2_with fail
    refine (rover_f (uN w2 D_0) (uN w2 G_0) HGp.out (Nat.le_trans Hd.out og)).mono ?_
    rintro e w3 ⟨⟨v3, v3r, rfl, hv3, _⟩, hb⟩
    have E_0 := Lib.hid (zce hv3 (uS w2 sz_0))
    obtain ⟨P3, k3, rfl, _, _, _⟩ := id hv3
    obtain ⟨cZ0_4, cZ1_4, cZ2_4⟩ := zab (uR w3 Z_0)
    obtain ⟨fZ0_4, fZ1_4, fZ2_4⟩ := zan (uR w3 Z_0)
    go_wp2_with fail
    refine zct Tryz.results103 rfl rfl (Row.put3 (uR w3 Z_0) _ _ _) (retQ Hr.out (uB w3 bw_0) og (uF w3 N_0) E_0.out og og)
theorem same_set {w : World} {g o : Nat} {S T : Nat → Prop} {a : Value} (h : ∀ x, S x → x ≠ g ∧ T x) : Same S T w (w.setCell ⟨g, o, none⟩ a) := fun x hx => ⟨(h x hx).2, fun o' => World.cell?_setCell_other _ _ _ _ (fun e => (h x hx).1 (by cases e; rfl))⟩
set_option maxRecDepth 100000 in
set_option maxHeartbeats 400000 in
theorem rneg_s {w : World} {v : Value} {q p : Rat} {S : Nat → Prop} (h : IsQ w S v q) (hS : ∀ b, S b → b < w.heap.size) (hp : p = -q) : Calls Tryz.prog 38 #[v] w (RetS S w p) := by
  subst hp
  have hl : (lim q.num.natAbs).length ≤ 9223372036854775807 := len_max (zak (IsK.stb.to (zar h).choose_spec.choose_spec.choose_spec.choose_spec.choose_spec.2.2.1.out (zav hS)))
  obtain ⟨neg, A, cA, B, cB, rfl, Hneg, Hn, Hd⟩ := zar h
  have hr := raw_neg_q q
  rw [show raw q = ⟨neg, lim q.num.natAbs, lim q.den⟩ from by rw [Hneg.out]; rfl] at hr
  obtain ⟨w0, hw0, hb0, rA, rZ, Hz⟩ := zbj w #[.bool neg, .slice A (lim q.num.natAbs).length cA, .slice B (lim q.den).length cB] #[.bool false, .slice none 0 0, .slice none 0 0] 30 30
  have n1 := IsK.stb.to Hn.out (zdj (S := S) hb0 hS)
  have d1 := IsK.stb.to Hd.out (zdj (S := S) hb0 hS)
  obtain ⟨a0, a1, a2⟩ := zab rA
  obtain ⟨fa0, fa1, fa2⟩ := zan rA
  obtain ⟨z0, z1, z2⟩ := zab rZ
  obtain ⟨f0, f1, f2⟩ := zan rZ
  have Rz := Lib.hid rZ
  have Hb := Lib.hid hb0
  have HN := Lib.hid n1
  have HD := Lib.hid d1
  have hfin : ∀ s : Bool, raw (-q) = ⟨s, lim q.num.natAbs, lim q.den⟩ → RetS S w (-q) (.returned (.agg #[.bool s, .slice A (lim q.num.natAbs).length cA, .slice B (lim q.den).length cB])) (put3 (w0.setCell ⟨w.heap.size, 0, none⟩ (.bool s)) (w.heap.size + 1) (.bool s) (.slice A (lim q.num.natAbs).length cA) (.slice B (lim q.den).length cB)) := fun s hs => by
    have k1 := IsK.stb.to HN.out (same_set (g := w.heap.size) (o := 0) (a := .bool s) (T := S) fun b hb => ⟨by have := hS b hb; omega, hb⟩)
    have k2 := IsK.stb.to HD.out (same_set (g := w.heap.size) (o := 0) (a := .bool s) (T := S) fun b hb => ⟨by have := hS b hb; omega, hb⟩)
    exact ⟨⟨_, rfl, isQ_mk hs (IsK.stb.to k1 (zbi fun b hb => ⟨by have := hS b hb; omega, hb⟩)) (IsK.stb.to k2 (zbi fun b hb => ⟨by have := hS b hb; omega, hb⟩))⟩, zad (Hb.out.setCell (p := ⟨w.heap.size, 0, none⟩) (Nat.le_refl _) _) og _ _ _⟩
  have Hfin := Lib.hid hfin
  have Hr := Lib.hid hr
  have HS := Lib.hid hS
  have hne : w.heap.size ≠ w.heap.size + 1 := og
  cases neg with
  | true =>
    go_enter Tryz.func38, Tryz.ntmps38
    go_wp2_with fail
    refine zct Tryz.results38 rfl rfl (Row.put3 (Row.far Rz.out (p := ⟨w.heap.size, 0, none⟩) (by show w.heap.size + 1 ≠ w.heap.size; omega) _) _ _ _) (Hfin.out false (by rw [Hr.out]; rfl))
  | false =>
    go_enter Tryz.func38, Tryz.ntmps38
    go_wp2_with fail
    refine zct Tryz.results38 rfl rfl (Row.put3 (Row.far Rz.out (p := ⟨w.heap.size, 0, none⟩) (by show w.heap.size + 1 ≠ w.heap.size; omega) _) _ _ _) (Hfin.out _ ?_)
    rw [Hr.out]
    congr 1
    rw [Bool.eq_iff_iff]
    have h1 := @num_zero_iff q
    have h2 := @lim_nil_iff q.num.natAbs
    simp
    rw [← h1, ← h2]
    omega
set_option maxRecDepth 100000 in
set_option maxHeartbeats 2000000 in
theorem raddq {w : World} {va vb : Value} {qa qb qc : Rat} (ha : IsQ w (Old w) va qa) (hb : IsQ w (Old w) vb qb) (hsa : Sz qa 100000) (hsb : Sz qb 100000) (hc : qc = qa + qb) : Calls Tryz.prog 37 #[va, vb] w (RetQ w qc) := by
  have HQa := Lib.hid ha
  obtain ⟨nega, Aa, cAa, Ba, cBa, rfl, Hnega, Hna, Hda⟩ := zar ha
  have HQb := Lib.hid hb
  obtain ⟨negb, Ab, cAb, Bb, cBb, rfl, Hnegb, Hnb, Hdb⟩ := zar hb
  obtain ⟨x, hx⟩ : ∃ x, x = qa.num.natAbs * qb.den := ⟨_, rfl⟩
  obtain ⟨y, hy⟩ : ∃ y, y = qb.num.natAbs * qa.den := ⟨_, rfl⟩
  obtain ⟨d, hd⟩ : ∃ d, d = qa.den * qb.den := ⟨_, rfl⟩
  have Hov : Hid (∀ (neg : Bool) (n : Nat), sg neg n = sg nega x + sg negb y → qc = mkRat (sg neg n) d) := fun neg n h => by rw [hc, hd]; exact (plus_over Hnega.out Hnegb.out (by rw [h, hx, hy])).symm
  have Hx := Lib.hid hx
  have Hy := Lib.hid hy
  have Hdd := Lib.hid hd
  have Hd0 : Hid (d ≠ 0) := by rw [Hid, hd]; exact Nat.mul_ne_zero qa.den_nz qb.den_nz
  have Lx : Hid ((lim x).length ≤ 200000) := by rw [Hid, hx]; exact sz_mul hsa.1 hsb.2
  have Ly : Hid ((lim y).length ≤ 200000) := by rw [Hid, hy]; exact sz_mul hsb.1 hsa.2
  have Ld : Hid ((lim d).length ≤ 2000000) := by rw [Hid, hd]; exact Nat.le_trans (sz_mul hsa.2 hsb.2) og
  have Hsa := Lib.hid hsa
  have Hsb := Lib.hid hsb
  clear ha hb hc hsa hsb hx hy hd
  obtain ⟨w0, hw0, hb0, ra, rb, rZ, Hz⟩ := zde w #[.bool nega, .slice Aa (lim qa.num.natAbs).length cAa, .slice Ba (lim qa.den).length cBa] #[.bool negb, .slice Ab (lim qb.num.natAbs).length cAb, .slice Bb (lim qb.den).length cBb] #[.bool false, .slice none 0 0, .slice none 0 0] 30 30 30
  have Qa_0 := Lib.hid (IsQ.stb.next HQa.out hb0)
  have Ra_0 := Lib.hid (ra)
  have Qb_0 := Lib.hid (IsQ.stb.next HQb.out hb0)
  have Rb_0 := Lib.hid (rb)
  have Z_0 := Lib.hid (rZ)
  have bw_0 := Lib.hid (hb0)
  have sz_0 : Hid (w.heap.size + 3 ≤ w0.heap.size) := Lib.hid (Nat.le_of_eq Hz.out.symm)
  clear ra rb rZ hb0
  obtain ⟨cRa0_1, cRa1_1, cRa2_1⟩ := zab Ra_0.out
  obtain ⟨cRb0_2, cRb1_2, cRb2_2⟩ := zab Rb_0.out
  obtain ⟨cZ0_3, cZ1_3, cZ2_3⟩ := zab Z_0.out
  obtain ⟨fZ0_3, fZ1_3, fZ2_3⟩ := zan Z_0.out
  go_enter Tryz.func37, Tryz.ntmps37
  go_wp2_with fail
  clear hw0
  go_region_held3 (fun w' => w'.cell? ⟨w.heap.size, 1, none⟩ = some (.slice Aa (lim qa.num.natAbs).length cAa) ∧ w'.cell? ⟨w.heap.size, 2, none⟩ = some (.slice Ba (lim qa.den).length cBa) ∧ w'.cell? ⟨w.heap.size + 1, 1, none⟩ = some (.slice Ab (lim qb.num.natAbs).length cAb) ∧ w'.cell? ⟨w.heap.size + 1, 2, none⟩ = some (.slice Bb (lim qb.den).length cBb))
    (first
      | exact ⟨cRa1_1, cRa2_1, cRb1_2, cRb2_2⟩
      | exact ⟨cRa1_4, cRa2_4, cRb1_5, cRb2_5⟩
      | exact ⟨cRa1_7, cRa2_7, cRb1_8, cRb2_8⟩
      | exact ⟨cRa1_10, cRa2_10, cRb1_11, cRb2_11⟩)
    (first
      | (go_at_call 106; have hc := (show Calls Tryz.prog 106 #[.slice Aa (lim qa.num.natAbs).length cAa, .slice Bb (lim qb.den).length cBb] (World.drew w0) (fun e w' => (∃ v, e = .returned v ∧ IsN w' (World.heap (World.drew w0)).size w'.heap.size v x) ∧ Below (World.heap (World.drew w0)).size (World.drew w0) w') from by rw [Hx.out]; exact zcq (zak (isQ_num (uQ w0.drew Qa_0))) (zak (isQ_den (uQ w0.drew Qb_0))) (Nat.le_refl _) (Nat.le_refl _) (Nat.le_trans Hsa.out.1 og) (Nat.le_trans Hsb.out.2 og)); (with_reducible refine hc.mono ?_); clear hc; rintro e w1 ⟨⟨v1, rfl, hv⟩, hb⟩; have X_0 := Lib.hid (zce hv (uS w0.drew sz_0)); obtain ⟨P1, k1, rfl, _, _, _⟩ := id hv; obtain ⟨cRa0_4, cRa1_4, cRa2_4⟩ := zab (uR w1 Ra_0); obtain ⟨cRb0_5, cRb1_5, cRb2_5⟩ := zab (uR w1 Rb_0); obtain ⟨cZ0_6, cZ1_6, cZ2_6⟩ := zab (uR w1 Z_0); obtain ⟨fZ0_6, fZ1_6, fZ2_6⟩ := zan (uR w1 Z_0))
      | (go_at_call 106; have hc := (show Calls Tryz.prog 106 #[.slice Ab (lim qb.num.natAbs).length cAb, .slice Ba (lim qa.den).length cBa] w1 (fun e w' => (∃ v, e = .returned v ∧ IsN w' (World.heap w1).size w'.heap.size v y) ∧ Below (World.heap w1).size w1 w') from by rw [Hy.out]; exact zcq (zak (isQ_num (uQ w1 Qb_0))) (zak (isQ_den (uQ w1 Qa_0))) (Nat.le_refl _) (Nat.le_refl _) (Nat.le_trans Hsb.out.1 og) (Nat.le_trans Hsa.out.2 og)); (with_reducible refine hc.mono ?_); clear hc; rintro e w2 ⟨⟨v2, rfl, hv2⟩, hb⟩; have Y_0 := Lib.hid (zce hv2 (uS w1 sz_0)); obtain ⟨P2, k2, rfl, _, _, _⟩ := id hv2; obtain ⟨cRa0_7, cRa1_7, cRa2_7⟩ := zab (uR w2 Ra_0); obtain ⟨cRb0_8, cRb1_8, cRb2_8⟩ := zab (uR w2 Rb_0); obtain ⟨cZ0_9, cZ1_9, cZ2_9⟩ := zab (uR w2 Z_0); obtain ⟨fZ0_9, fZ1_9, fZ2_9⟩ := zan (uR w2 Z_0))
      | (go_at_call 106; have hc := (show Calls Tryz.prog 106 #[.slice Ba (lim qa.den).length cBa, .slice Bb (lim qb.den).length cBb] w2 (fun e w' => (∃ v, e = .returned v ∧ IsN w' (World.heap w2).size w'.heap.size v d) ∧ Below (World.heap w2).size w2 w') from by rw [Hdd.out]; exact zcq (zak (isQ_den (uQ w2 Qa_0))) (zak (isQ_den (uQ w2 Qb_0))) (Nat.le_refl _) (Nat.le_refl _) (Nat.le_trans Hsa.out.2 og) (Nat.le_trans Hsb.out.2 og)); (with_reducible refine hc.mono ?_); clear hc; rintro e w3 ⟨⟨v3, rfl, hv3⟩, hb⟩; have D_0 := Lib.hid (zce hv3 (uS w2 sz_0)); obtain ⟨P3, k3, rfl, _, _, _⟩ := id hv3; obtain ⟨cRa0_10, cRa1_10, cRa2_10⟩ := zab (uR w3 Ra_0); obtain ⟨cRb0_11, cRb1_11, cRb2_11⟩ := zab (uR w3 Rb_0); obtain ⟨cZ0_12, cZ1_12, cZ2_12⟩ := zab (uR w3 Z_0); obtain ⟨fZ0_12, fZ1_12, fZ2_12⟩ := zan (uR w3 Z_0)))
  rcases (by cases nega <;> cases negb <;> simp : (nega == negb) = true ∨ (nega == negb) = false) with hs | hs
  · have Hs : Hid (negb = nega) := by unfold Hid; cases nega <;> cases negb <;> simp at hs ⊢
    obtain ⟨n, hn⟩ : ∃ n, n = x + y := ⟨_, rfl⟩
    have Hq : Hid (qc = mkRat (sg nega n) d) := Hov.out _ _ (by rw [Hs.out, hn, sg_add])
    have Hnl : Hid ((lim n).length ≤ 2000000) := by rw [Hid, hn]; exact Nat.le_trans (sz_add Lx.out Ly.out) og
    have Hn := Lib.hid hn
    clear hn
    go_wp2_with fail
    go_region_held3 (fun w' => w'.cell? ⟨w.heap.size, 0, none⟩ = some (.bool nega))
      (first
        | exact cRa0_10
        | exact cRa0_13
        | exact cRa0_16
        | exact zaj cRa0_16 og)
      (first
        | (go_at_call 107; have hc := (show Calls Tryz.prog 107 #[.slice P1 (lim x).length k1, .slice P2 (lim y).length k2] (World.drew w3) (fun e w' => (∃ v, e = .returned v ∧ IsN w' (World.heap (World.drew w3)).size w'.heap.size v n) ∧ Below (World.heap (World.drew w3)).size (World.drew w3) w') from by rw [Hn.out]; exact rplus_n (zak (IsK.stb.old (uF w3.drew X_0))) (zak (IsK.stb.old (uF w3.drew Y_0))) (Nat.le_refl _) (Nat.le_refl _) (Nat.le_trans Lx.out og) (Nat.le_trans Ly.out og)); (with_reducible refine hc.mono ?_); clear hc; rintro e wp1 ⟨⟨v4, rfl, hv4⟩, hb⟩; have N_0 := Lib.hid (zce hv4 (uS w3.drew sz_0)); obtain ⟨P4, k4, rfl, _, _, _⟩ := id hv4; obtain ⟨cRa0_13, cRa1_13, cRa2_13⟩ := zab (uR wp1 Ra_0); obtain ⟨cRb0_14, cRb1_14, cRb2_14⟩ := zab (uR wp1 Rb_0); obtain ⟨cZ0_15, cZ1_15, cZ2_15⟩ := zab (uR wp1 Z_0); obtain ⟨fZ0_15, fZ1_15, fZ2_15⟩ := zan (uR wp1 Z_0))
        | (go_at_call 103; have hc := zeh (neg := nega) (zak (IsK.stb.old N_0.out)) (zak (IsK.stb.old (uF wp1 D_0))) Hd0.out Hnl.out Ld.out Hq.out; (with_reducible refine hc.mono ?_); clear hc; rintro e wp2 ⟨⟨v5, rfl, hv5⟩, hb⟩; have V_0 := Lib.hid (IsQ.stb.le hv5 (uS wp1 sz_0)); obtain ⟨s5, P5, k5, O5, l5, rfl, _, _, _⟩ := zar hv5; obtain ⟨cRa0_16, cRa1_16, cRa2_16⟩ := zab (uR wp2 Ra_0); obtain ⟨cRb0_17, cRb1_17, cRb2_17⟩ := zab (uR wp2 Rb_0); obtain ⟨cZ0_18, cZ1_18, cZ2_18⟩ := zab (uR wp2 Z_0); obtain ⟨fZ0_18, fZ1_18, fZ2_18⟩ := zan (uR wp2 Z_0)))
    go_wp2_with fail
    refine zct Tryz.results37 rfl rfl (Row.put3 (uR wp2 Z_0) _ _ _) (retQ2 V_0.out (uB wp2 bw_0) og og)
  · have Hs : Hid (negb = !nega) := by unfold Hid; cases nega <;> cases negb <;> simp at hs ⊢
    rcases Nat.lt_or_ge x y with hlt | hge
    · have Hlt := Lib.hid hlt
      obtain ⟨n, hn⟩ : ∃ n, n = y - x := ⟨_, rfl⟩
      have Hq : Hid (qc = mkRat (sg negb n) d) := Hov.out _ _ (by rw [Hs.out, hn, sg_sub' (Nat.le_of_lt hlt)]; simp)
      have Hnl : Hid ((lim n).length ≤ 2000000) := by rw [Hid, hn]; exact Nat.le_trans (zah (Nat.sub_le _ _)) (Nat.le_trans Ly.out og)
      have Hn := Lib.hid hn
      have Hsg := Lib.hid (zdl hlt)
      clear hn hlt
      go_wp2_with fail
      refine ((show Calls Tryz.prog 108 #[.slice P1 (lim x).length k1, .slice P2 (lim y).length k2] w3 (fun e w' => e = .returned (.int .i64 (-1)) ∧ Below w3.heap.size w3 w') from by rw [← Hsg.out]; exact (zfi (zak (IsK.stb.old (uF w3 X_0))) (zak (IsK.stb.old (uF w3 Y_0)))).mono fun e w' ⟨he, hd⟩ => ⟨he, hd.below _⟩)).mono ?_
      rintro e w4 ⟨rfl, hb⟩
      obtain ⟨cRa0_13, cRa1_13, cRa2_13⟩ := zab (uR w4 Ra_0)
      obtain ⟨cRb0_14, cRb1_14, cRb2_14⟩ := zab (uR w4 Rb_0)
      obtain ⟨cZ0_15, cZ1_15, cZ2_15⟩ := zab (uR w4 Z_0)
      obtain ⟨fZ0_15, fZ1_15, fZ2_15⟩ := zan (uR w4 Z_0)
      go_wp2_with fail
      go_region_held3 (fun w' => w'.cell? ⟨w.heap.size + 1, 0, none⟩ = some (.bool negb))
        (first
          | exact cRb0_14
          | exact cRb0_17
          | exact cRb0_20
          | exact zaj cRb0_20 og)
        (first
          | (go_at_call 109; have hc := (show Calls Tryz.prog 109 #[.slice P2 (lim y).length k2, .slice P1 (lim x).length k1] (World.drew w4) (fun e w' => (∃ v, e = .returned v ∧ IsN w' (World.heap (World.drew w4)).size w'.heap.size v n) ∧ Below (World.heap (World.drew w4)).size (World.drew w4) w') from by rw [Hn.out]; exact rminus_n (zak (IsK.stb.old (uF w4.drew Y_0))) (zak (IsK.stb.old (uF w4.drew X_0))) (Nat.le_refl _) (Nat.le_refl _) (Nat.le_of_lt Hlt.out) (Nat.le_trans Ly.out og)); (with_reducible refine hc.mono ?_); clear hc; rintro e wm1 ⟨⟨v5, rfl, hv5⟩, hb⟩; have N_0 := Lib.hid (zce hv5 (uS w4.drew sz_0)); obtain ⟨P5, k5, rfl, _, _, _⟩ := id hv5; obtain ⟨cRa0_16, cRa1_16, cRa2_16⟩ := zab (uR wm1 Ra_0); obtain ⟨cRb0_17, cRb1_17, cRb2_17⟩ := zab (uR wm1 Rb_0); obtain ⟨cZ0_18, cZ1_18, cZ2_18⟩ := zab (uR wm1 Z_0); obtain ⟨fZ0_18, fZ1_18, fZ2_18⟩ := zan (uR wm1 Z_0))
          | (go_at_call 103; have hc := zeh (neg := negb) (zak (IsK.stb.old N_0.out)) (zak (IsK.stb.old (uF wm1 D_0))) Hd0.out Hnl.out Ld.out Hq.out; (with_reducible refine hc.mono ?_); clear hc; rintro e wm2 ⟨⟨v6, rfl, hv6⟩, hb⟩; have V_0 := Lib.hid (IsQ.stb.le hv6 (uS wm1 sz_0)); obtain ⟨s6, P6, k6, O6, l6, rfl, _, _, _⟩ := zar hv6; obtain ⟨cRa0_19, cRa1_19, cRa2_19⟩ := zab (uR wm2 Ra_0); obtain ⟨cRb0_20, cRb1_20, cRb2_20⟩ := zab (uR wm2 Rb_0); obtain ⟨cZ0_21, cZ1_21, cZ2_21⟩ := zab (uR wm2 Z_0); obtain ⟨fZ0_21, fZ1_21, fZ2_21⟩ := zan (uR wm2 Z_0)))
      go_wp2_with fail
      refine zct Tryz.results37 rfl rfl (Row.put3 (uR wm2 Z_0) _ _ _) (retQ2 V_0.out (uB wm2 bw_0) og og)
    · have Hge := Lib.hid hge
      obtain ⟨n, hn⟩ : ∃ n, n = x - y := ⟨_, rfl⟩
      have Hq : Hid (qc = mkRat (sg nega n) d) := Hov.out _ _ (by rw [Hs.out, hn, sg_sub hge])
      have Hnl : Hid ((lim n).length ≤ 2000000) := by rw [Hid, hn]; exact Nat.le_trans (zah (Nat.sub_le _ _)) (Nat.le_trans Lx.out og)
      have Hn := Lib.hid hn
      obtain ⟨r, hr, hr0⟩ : ∃ r, r = sgn x y ∧ 0 ≤ r := by
        refine ⟨_, rfl, ?_⟩
        rcases Nat.lt_or_ge y x with h | h
        · rw [zfj h]; omega
        · rw [sgn_eq (Nat.le_antisymm h hge)]; omega
      have Hsg := Lib.hid hr
      clear hn hge hr
      go_wp2_with fail
      refine ((show Calls Tryz.prog 108 #[.slice P1 (lim x).length k1, .slice P2 (lim y).length k2] w3 (fun e w' => e = .returned (.int .i64 r) ∧ Below w3.heap.size w3 w') from by rw [Hsg.out]; exact (zfi (zak (IsK.stb.old (uF w3 X_0))) (zak (IsK.stb.old (uF w3 Y_0)))).mono fun e w' ⟨he, hd⟩ => ⟨he, hd.below _⟩)).mono ?_
      rintro e w4 ⟨rfl, hb⟩
      obtain ⟨cRa0_13, cRa1_13, cRa2_13⟩ := zab (uR w4 Ra_0)
      obtain ⟨cRb0_14, cRb1_14, cRb2_14⟩ := zab (uR w4 Rb_0)
      obtain ⟨cZ0_15, cZ1_15, cZ2_15⟩ := zab (uR w4 Z_0)
      obtain ⟨fZ0_15, fZ1_15, fZ2_15⟩ := zan (uR w4 Z_0)
      go_wp2_with fail
      go_region_held3 (fun w' => w'.cell? ⟨w.heap.size, 0, none⟩ = some (.bool nega))
        (first
          | exact cRa0_13
          | exact cRa0_16
          | exact cRa0_19
          | exact zaj cRa0_19 og)
        (first
          | (go_at_call 109; have hc := (show Calls Tryz.prog 109 #[.slice P1 (lim x).length k1, .slice P2 (lim y).length k2] (World.drew w4) (fun e w' => (∃ v, e = .returned v ∧ IsN w' (World.heap (World.drew w4)).size w'.heap.size v n) ∧ Below (World.heap (World.drew w4)).size (World.drew w4) w') from by rw [Hn.out]; exact rminus_n (zak (IsK.stb.old (uF w4.drew X_0))) (zak (IsK.stb.old (uF w4.drew Y_0))) (Nat.le_refl _) (Nat.le_refl _) Hge.out (Nat.le_trans Lx.out og)); (with_reducible refine hc.mono ?_); clear hc; rintro e wm1 ⟨⟨v5, rfl, hv5⟩, hb⟩; have N_0 := Lib.hid (zce hv5 (uS w4.drew sz_0)); obtain ⟨P5, k5, rfl, _, _, _⟩ := id hv5; obtain ⟨cRa0_16, cRa1_16, cRa2_16⟩ := zab (uR wm1 Ra_0); obtain ⟨cRb0_17, cRb1_17, cRb2_17⟩ := zab (uR wm1 Rb_0); obtain ⟨cZ0_18, cZ1_18, cZ2_18⟩ := zab (uR wm1 Z_0); obtain ⟨fZ0_18, fZ1_18, fZ2_18⟩ := zan (uR wm1 Z_0))
          | (go_at_call 103; have hc := zeh (neg := nega) (zak (IsK.stb.old N_0.out)) (zak (IsK.stb.old (uF wm1 D_0))) Hd0.out Hnl.out Ld.out Hq.out; (with_reducible refine hc.mono ?_); clear hc; rintro e wm2 ⟨⟨v6, rfl, hv6⟩, hb⟩; have V_0 := Lib.hid (IsQ.stb.le hv6 (uS wm1 sz_0)); obtain ⟨s6, P6, k6, O6, l6, rfl, _, _, _⟩ := zar hv6; obtain ⟨cRa0_19, cRa1_19, cRa2_19⟩ := zab (uR wm2 Ra_0); obtain ⟨cRb0_20, cRb1_20, cRb2_20⟩ := zab (uR wm2 Rb_0); obtain ⟨cZ0_21, cZ1_21, cZ2_21⟩ := zab (uR wm2 Z_0); obtain ⟨fZ0_21, fZ1_21, fZ2_21⟩ := zan (uR wm2 Z_0)))
      go_wp2_with fail
      refine zct Tryz.results37 rfl rfl (Row.put3 (uR wm2 Z_0) _ _ _) (retQ2 V_0.out (uB wm2 bw_0) og og)
theorem tdiv_small {m k : Int} (h : m.natAbs < k.natAbs) (hk : 0 < k) : m.tmod k = m ∧ m.tdiv k = 0 := by
  rcases Int.le_total 0 m with h0 | h0
  · exact ⟨Int.tmod_eq_of_lt h0 (by omega), Int.tdiv_eq_zero_of_lt h0 (by omega)⟩
  · have h1 : (-m).tmod k = -m := Int.tmod_eq_of_lt (by omega) (by omega)
    have h2 : (-m).tdiv k = 0 := Int.tdiv_eq_zero_of_lt (by omega) (by omega)
    rw [Int.neg_tmod] at h1
    rw [Int.neg_tdiv] at h2
    omega
set_option maxRecDepth 100000 in
set_option maxHeartbeats 1000000 in
theorem rsize_i {w : World} {n : Int} (h : n.natAbs < 1000000000) : Calls Tryz.prog 104 #[.int .i64 n] w fun e w' => (∃ v, e = .returned v ∧ IsN w' w.heap.size w'.heap.size v n.natAbs) ∧ Below w.heap.size w w' := by
  have HN := Lib.hid h
  go_enter Tryz.func104, Tryz.ntmps104
  go_wp2_with fail
  go_loopw [0, 3, 4] (fun n' o d wr => ∃ (m : Int) (l : List Nat), n' = .int .i64 m ∧ Own wr w.heap.size 160 o (cel .u32 l) ∧ Below w.heap.size w wr ∧ Hid (m = n ∧ l = [] ∨ m = 0 ∧ l = lim n.natAbs)) (fun n' _ _ _ => (intOf n').natAbs)
  case atStart => exact ⟨n, [], rfl, Own.nil _ _ _, Below.refl _ _, .inl ⟨rfl, rfl⟩⟩
  case round =>
    obtain ⟨m, l, rfl, hown, hb, hl⟩ := hrel
    rcases Decidable.em (m = 0) with h0 | h0
    · have Hl : Hid (l = lim n.natAbs) := by
        rcases hl.out with ⟨h1, h2⟩ | ⟨h1, h2⟩
        · rw [Hid, h2, ← h1, h0]; exact lim_zero.symm
        · exact h2
      subst h0
      have hb' := hb
      go_wp2_with fail
      go_ret
      refine ⟨⟨_, rfl, ?_⟩, hb⟩
      have h1 := hown.isL
      rw [Hl.out] at h1
      exact h1
    · have Hm : Hid (m = n ∧ l = []) := by
        rcases hl.out with h | h
        · exact h
        · exact absurd h.1 h0
      obtain ⟨rfl, rfl⟩ := Hm.out
      have hlt := HN.out
      obtain ⟨e1, e2⟩ := tdiv_small (m := m) (k := 1000000000) (by omega) (by omega)
      have b1 : ((m : Int) == 0) = false := by simpa using h0
      have em : (if m < -m then -m else m) = ((m.natAbs : Nat) : Int) := by split <;> omega
      have hbw : w.heap.size ≤ wr.heap.size := hb.size
      go_wp2_with (at_builtin; refine zbp elN rfl _ _ rfl rfl hown rfl rfl (by rw [show (cel .u32 ([] : List Nat)).length = 0 from rfl]; omega) hbw ?_; intro v1 w1 hown1 hbw1 hz1)
      rw [show cel .u32 ([] : List Nat) ++ [.int .u32 ((m.natAbs : Nat) : Int)] = cel .u32 [m.natAbs] from rfl, ← zcs (by omega) (by omega)] at hown1
      go_roundw
      case rel => exact ⟨0, _, rfl, hown1, hb.trans hbw1, .inr ⟨rfl, rfl⟩⟩
      case measure => simp [intOf]; omega
theorem whole_i {w : World} {n : Int} (h : n.natAbs < 1000000000) {q : Rat} (hq : q = (n : Rat)) : Calls Tryz.prog 35 #[.int .i64 n] w (RetQ w q) := by
  have HN := Lib.hid h
  have Hl : Hid ((lim n.natAbs).length ≤ 2) := lim_len_le.2 (by have : pw 2 = 1000000000000000000 := rfl; omega)
  have Hq : Hid (q = mkRat (sg (decide (n < 0)) n.natAbs) 1) := by
    rw [Hid, hq, Rat.mkRat_one]
    congr 1
    unfold sg
    by_cases h0 : n < 0
    · simp [h0]; omega
    · simp [h0]; omega
  obtain ⟨w0, hw0, hb0, rZ, Hz⟩ := zao w #[.bool false, .slice none 0 0, .slice none 0 0] 30
  have RZ := Lib.hid rZ
  have HB0 := Lib.hid hb0
  clear rZ hb0 hq
  go_enter Tryz.func35, Tryz.ntmps35
  go_wp2_with fail
  clear hw0
  refine (rsize_i HN.out).mono ?_
  rintro e w1 ⟨⟨v, rfl, hv⟩, hb⟩
  have V1 := Lib.hid hv
  obtain ⟨P1, k1, rfl, _, _, _⟩ := id hv
  have HB1 := Lib.hid (zaa HB0.out hb)
  have RZ1 := Lib.hid (RZ.out.next hb)
  have hz1 := hb.size
  clear hv hb
  go_wp2_with fail
  have hv2 := IsN.next (V1.out.wide (Nat.zero_le _) (Nat.le_refl _)) (zaq w1 (.cells #[.int .u32 1] 160))
  refine (zeh (n := n.natAbs) (d := 1) (neg := decide (n < 0)) hv2 (zak (IsK.stb.old (lit_one w1))) (by omega) (Nat.le_trans Hl.out (by omega)) (by rw [zea]; decide) Hq.out).mono ?_
  rintro e w2 ⟨⟨v, rfl, hv⟩, hb⟩
  have HV := Lib.hid (IsQ.stb.le hv (m := w.heap.size + 1) (by have h1 := Hz.out; have h2 := hz1; rw [World.size_alloc]; omega))
  have hb2 := zaa (zaq _ _) hb
  have Hb2 := Lib.hid (zaa HB1.out hb2)
  have RZ2 := Lib.hid (RZ1.out.next hb2)
  obtain ⟨s, P, k, O, l, rfl, _, _, _⟩ := zar hv
  obtain ⟨d0, d1, d2⟩ := zab RZ2.out
  obtain ⟨f0, f1, f2⟩ := zan RZ2.out
  clear hb hb2 hv
  go_wp2_with fail
  refine zct Tryz.results35 rfl rfl (Row.put3 RZ2.out _ _ _) (retQ2 HV.out Hb2.out (Nat.le_refl _) (by omega))
set_option maxRecDepth 100000 in
set_option maxHeartbeats 1000000 in
theorem ratio_i {w : World} {a : Int} {b : Nat} (ha : a.natAbs < 1000000000) (hb0 : 0 < b) (hb : b < 1000000000) : Calls Tryz.prog 119 #[.int .i64 a, .int .i64 (b : Int)] w (RetQ w (mkRat a b)) := by
  have HA := Lib.hid ha
  have HB9 := Lib.hid (And.intro hb0 hb)
  have Hla : Hid ((lim a.natAbs).length ≤ 2) := lim_len_le.2 (by have : pw 2 = 1000000000000000000 := rfl; omega)
  have Hlb : Hid ((lim b).length ≤ 2) := lim_len_le.2 (by have : pw 2 = 1000000000000000000 := rfl; omega)
  have Hq : Hid (mkRat a b = mkRat (sg (decide (a < 0)) a.natAbs) b) := by rw [Hid, sg_of]
  have kb : ¬ ((b : Int) < 0) := by omega
  obtain ⟨w0, hw0, hb0', rZ, Hz⟩ := zao w #[.bool false, .slice none 0 0, .slice none 0 0] 30
  have RZ := Lib.hid rZ
  have HB0 := Lib.hid hb0'
  clear rZ hb0' ha hb0 hb
  go_enter Tryz.func119, Tryz.ntmps119
  go_wp2_with fail
  clear hw0
  refine (rsize_i HA.out).mono ?_
  rintro e w1 ⟨⟨v, rfl, hv⟩, hb⟩
  have V1 := Lib.hid (hv.wide (Nat.zero_le _) (Nat.le_refl _))
  obtain ⟨P1, k1, rfl, _, _, _⟩ := id hv
  have HB1 := Lib.hid (zaa HB0.out hb)
  have RZ1 := Lib.hid (RZ.out.next hb)
  have hz1 := hb.size
  clear hv hb
  go_wp2_with fail
  refine (rsize_i (n := (b : Int)) (by rw [Int.natAbs_natCast]; exact HB9.out.2)).mono ?_
  rw [Int.natAbs_natCast]
  rintro e w2 ⟨⟨v, rfl, hv⟩, hb⟩
  have V2 := Lib.hid (hv.wide (Nat.zero_le _) (Nat.le_refl _))
  obtain ⟨P2, k2, rfl, _, _, _⟩ := id hv
  have V1' := Lib.hid (IsN.next V1.out hb)
  have HB2 := Lib.hid (zaa HB1.out hb)
  have RZ2 := Lib.hid (RZ1.out.next hb)
  have hz2 := hb.size
  clear hv hb
  go_wp2_with fail
  refine (zeh (n := a.natAbs) (d := b) (neg := decide (a < 0)) (q := mkRat a b) V1'.out V2.out (by have := HB9.out.1; omega) (Nat.le_trans Hla.out (by omega)) (Nat.le_trans Hlb.out (by omega)) Hq.out).mono ?_
  rintro e w3 ⟨⟨v, rfl, hv⟩, hb⟩
  have HV := Lib.hid (IsQ.stb.le hv (m := w.heap.size + 1) (by have h1 := Hz.out; omega))
  have Hb3 := Lib.hid (zaa HB2.out hb)
  have RZ3 := Lib.hid (RZ2.out.next hb)
  obtain ⟨s, P, k, O, l, rfl, _, _, _⟩ := zar hv
  obtain ⟨d0, d1, d2⟩ := zab RZ3.out
  obtain ⟨f0, f1, f2⟩ := zan RZ3.out
  clear hb hv
  go_wp2_with fail
  refine zct Tryz.results119 rfl rfl (Row.put3 RZ3.out _ _ _) (retQ2 HV.out Hb3.out (Nat.le_refl _) (by omega))
theorem over_nat {na nb : Bool} {qa qb : Rat} {n : Nat} (hn : 0 < n) (hq : qb = ((n : Nat) : Rat)) (h1 : na = decide (qa.num < 0)) (h2 : nb = decide (qb.num < 0)) : mkRat (sg (na != nb) (qa.num.natAbs * qb.den)) (qa.den * qb.num.natAbs) = qa * mkRat 1 n := by
  have e1 : qb.num = (n : Int) := by rw [hq, Rat.num_natCast]
  have e2 : qb.den = 1 := by rw [hq, Rat.den_natCast]
  have e3 : nb = false := by rw [h2, e1]; exact decide_eq_false (by omega)
  rw [e1, e2, e3, Nat.mul_one, Int.natAbs_natCast, Bool.bne_false, sg_num h1]
  have := Rat.mkRat_mul_mkRat qa.num 1 qa.den n
  rw [Rat.mkRat_self, Int.mul_one] at this
  exact this.symm
set_option maxRecDepth 100000 in
set_option maxHeartbeats 1000000 in
theorem rover_q {w : World} {va vb : Value} {qa qb qc : Rat} {n : Nat} (ha : IsQ w (Old w) va qa) (hb : IsQ w (Old w) vb qb) (hsa : Sz qa 100000) (hsb : Sz qb 100000) (hn : 0 < n) (hqb : qb = ((n : Nat) : Rat)) (hc : qc = qa * mkRat 1 n) : Calls Tryz.prog 39 #[va, vb] w (RetQ w qc) := by
  have HQa := Lib.hid ha
  obtain ⟨nega, Aa, cAa, Ba, cBa, rfl, Hnega, Hna, Hda⟩ := zar ha
  have HQb := Lib.hid hb
  obtain ⟨negb, Ab, cAb, Bb, cBb, rfl, Hnegb, Hnb, Hdb⟩ := zar hb
  obtain ⟨ng, hng⟩ : ∃ ng : Bool, (!(nega == negb)) = ng := ⟨_, rfl⟩
  obtain ⟨x, hx⟩ : ∃ x, x = qa.num.natAbs * qb.den := ⟨_, rfl⟩
  obtain ⟨d, hd⟩ : ∃ d, d = qa.den * qb.num.natAbs := ⟨_, rfl⟩
  have Hq : Hid (qc = mkRat (sg ng x) d) := by rw [Hid, hc, ← hng, hx, hd]; exact (over_nat hn hqb Hnega.out Hnegb.out).symm
  have Hx := Lib.hid hx
  have Hdd := Lib.hid hd
  have Hd0 : Hid (d ≠ 0) := by rw [Hid, hd]; exact Nat.mul_ne_zero qa.den_nz (by rw [hqb, Rat.num_natCast]; omega)
  have Lx : Hid ((lim x).length ≤ 2000000) := by rw [Hid, hx]; exact Nat.le_trans (sz_mul hsa.1 hsb.2) og
  have Ld : Hid ((lim d).length ≤ 2000000) := by rw [Hid, hd]; exact Nat.le_trans (sz_mul hsa.2 hsb.1) og
  have Hsa := Lib.hid hsa
  have Hsb := Lib.hid hsb
  clear ha hb hc hsa hsb hx hd hqb hn
  obtain ⟨w0, hw0, hb0, ra, rb, rZ, Hz⟩ := zde w #[.bool nega, .slice Aa (lim qa.num.natAbs).length cAa, .slice Ba (lim qa.den).length cBa] #[.bool negb, .slice Ab (lim qb.num.natAbs).length cAb, .slice Bb (lim qb.den).length cBb] #[.bool false, .slice none 0 0, .slice none 0 0] 30 30 30
  have Qa_0 := Lib.hid (IsQ.stb.next HQa.out hb0)
  have Ra_0 := Lib.hid (ra)
  have Qb_0 := Lib.hid (IsQ.stb.next HQb.out hb0)
  have Rb_0 := Lib.hid (rb)
  have Z_0 := Lib.hid (rZ)
  have bw_0 := Lib.hid (hb0)
  have sz_0 : Hid (w.heap.size + 3 ≤ w0.heap.size) := Lib.hid (Nat.le_of_eq Hz.out.symm)
  clear ra rb rZ hb0
  obtain ⟨cRa0_1, cRa1_1, cRa2_1⟩ := zab Ra_0.out
  obtain ⟨cRb0_2, cRb1_2, cRb2_2⟩ := zab Rb_0.out
  obtain ⟨cZ0_3, cZ1_3, cZ2_3⟩ := zab Z_0.out
  obtain ⟨fZ0_3, fZ1_3, fZ2_3⟩ := zan Z_0.out
  go_enter Tryz.func39, Tryz.ntmps39
  go_wp2_with fail
  clear hw0
  go_region_held3 (fun w' => w'.cell? ⟨w.heap.size, 0, none⟩ = some (.bool nega) ∧ w'.cell? ⟨w.heap.size, 1, none⟩ = some (.slice Aa (lim qa.num.natAbs).length cAa) ∧ w'.cell? ⟨w.heap.size, 2, none⟩ = some (.slice Ba (lim qa.den).length cBa) ∧ w'.cell? ⟨w.heap.size + 1, 0, none⟩ = some (.bool negb) ∧ w'.cell? ⟨w.heap.size + 1, 1, none⟩ = some (.slice Ab (lim qb.num.natAbs).length cAb) ∧ w'.cell? ⟨w.heap.size + 1, 2, none⟩ = some (.slice Bb (lim qb.den).length cBb))
    (first
      | exact ⟨cRa0_1, cRa1_1, cRa2_1, cRb0_2, cRb1_2, cRb2_2⟩
      | exact ⟨cRa0_4, cRa1_4, cRa2_4, cRb0_5, cRb1_5, cRb2_5⟩
      | exact ⟨cRa0_7, cRa1_7, cRa2_7, cRb0_8, cRb1_8, cRb2_8⟩
      | exact ⟨cRa0_10, cRa1_10, cRa2_10, cRb0_11, cRb1_11, cRb2_11⟩
      | exact ⟨zaj cRa0_10 og, zaj cRa1_10 og, zaj cRa2_10 og, zaj cRb0_11 og, zaj cRb1_11 og, zaj cRb2_11 og⟩)
    (first
      | (go_at_call 106; have hc := (show Calls Tryz.prog 106 #[.slice Aa (lim qa.num.natAbs).length cAa, .slice Bb (lim qb.den).length cBb] (World.drew w0) (fun e w' => (∃ v, e = .returned v ∧ IsN w' (World.heap (World.drew w0)).size w'.heap.size v x) ∧ Below (World.heap (World.drew w0)).size (World.drew w0) w') from by rw [Hx.out]; exact zcq (zak (isQ_num (uQ w0.drew Qa_0))) (zak (isQ_den (uQ w0.drew Qb_0))) (Nat.le_refl _) (Nat.le_refl _) (Nat.le_trans Hsa.out.1 og) (Nat.le_trans Hsb.out.2 og)); (with_reducible refine hc.mono ?_); clear hc; rintro e w1 ⟨⟨v1, rfl, hv⟩, hb⟩; have X_0 := Lib.hid (zce hv (uS w0.drew sz_0)); obtain ⟨P1, k1, rfl, _, _, _⟩ := id hv; obtain ⟨cRa0_4, cRa1_4, cRa2_4⟩ := zab (uR w1 Ra_0); obtain ⟨cRb0_5, cRb1_5, cRb2_5⟩ := zab (uR w1 Rb_0); obtain ⟨cZ0_6, cZ1_6, cZ2_6⟩ := zab (uR w1 Z_0); obtain ⟨fZ0_6, fZ1_6, fZ2_6⟩ := zan (uR w1 Z_0))
      | (go_at_call 106; have hc := (show Calls Tryz.prog 106 #[.slice Ba (lim qa.den).length cBa, .slice Ab (lim qb.num.natAbs).length cAb] w1 (fun e w' => (∃ v, e = .returned v ∧ IsN w' (World.heap w1).size w'.heap.size v d) ∧ Below (World.heap w1).size w1 w') from by rw [Hdd.out]; exact zcq (zak (isQ_den (uQ w1 Qa_0))) (zak (isQ_num (uQ w1 Qb_0))) (Nat.le_refl _) (Nat.le_refl _) (Nat.le_trans Hsa.out.2 og) (Nat.le_trans Hsb.out.1 og)); (with_reducible refine hc.mono ?_); clear hc; rintro e w2 ⟨⟨v2, rfl, hv2⟩, hb⟩; have D_0 := Lib.hid (zce hv2 (uS w1 sz_0)); obtain ⟨P2, k2, rfl, _, _, _⟩ := id hv2; obtain ⟨cRa0_7, cRa1_7, cRa2_7⟩ := zab (uR w2 Ra_0); obtain ⟨cRb0_8, cRb1_8, cRb2_8⟩ := zab (uR w2 Rb_0); obtain ⟨cZ0_9, cZ1_9, cZ2_9⟩ := zab (uR w2 Z_0); obtain ⟨fZ0_9, fZ1_9, fZ2_9⟩ := zan (uR w2 Z_0))
      | (go_at_call 103; have hc := zeh (neg := ng) (zak (IsK.stb.old (uF w2 X_0))) (zak (IsK.stb.old D_0.out)) Hd0.out Lx.out Ld.out Hq.out; (with_reducible refine hc.mono ?_); clear hc; rintro e w3 ⟨⟨v3, rfl, hv3⟩, hb⟩; have V_0 := Lib.hid (IsQ.stb.le hv3 (uS w2 sz_0)); obtain ⟨s3, P3, k3, O3, l3, rfl, _, _, _⟩ := zar hv3; obtain ⟨cRa0_10, cRa1_10, cRa2_10⟩ := zab (uR w3 Ra_0); obtain ⟨cRb0_11, cRb1_11, cRb2_11⟩ := zab (uR w3 Rb_0); obtain ⟨cZ0_12, cZ1_12, cZ2_12⟩ := zab (uR w3 Z_0); obtain ⟨fZ0_12, fZ1_12, fZ2_12⟩ := zan (uR w3 Z_0)))
  go_wp2_with fail
  refine zct Tryz.results39 rfl rfl (Row.put3 (uR w3 Z_0) _ _ _) (retQ2 V_0.out (uB w3 bw_0) og og)
def zbx (n : Nat) (l : List Int) : List Rat := l.map fun x => mkRat x n
theorem partsQ_len (n : Nat) (l : List Int) : (zbx n l).length = l.length := List.length_map _
theorem partsQ_snoc {n : Nat} {l : List Int} {k : Nat} {x : Int} (h : l[k]? = some x) : (zbx n l).take (k + 1) = (zbx n l).take k ++ [mkRat x n] := by
  refine take_snoc ?_
  unfold zbx
  rw [List.getElem?_map, h]
  rfl
def RetP (w : World) (n : Nat) (l : List Int) (e : Ending) (w' : World) : Prop := (∃ v, e = .returned v ∧ IsV w' (New w.heap.size w') v (rawV (zbx n l))) ∧ Below w.heap.size w w'
set_option maxRecDepth 100000 in
set_option maxHeartbeats 2000000 in
theorem parts25_l {w : World} {A : Option Addr} {c m : Nat} {l : List Int} (hr : IsIL w (Old w) (.slice A m c) l) (hm : m = l.length) (hl : l.length ≤ 40) (hx : ∀ x ∈ l, x.natAbs ≤ 1000000) {n : Nat} (hn : 0 < n) (hn9 : n ≤ 1000000) :
    Calls Tryz.prog 93 #[.int .i64 (n : Int), .slice A m c] w (RetP w n l) := by
  have HR := Lib.hid hr
  have Hx := Lib.hid hx
  have Hn := Lib.hid hm
  have HN := Lib.hid (And.intro hn hn9)
  rw [← hm] at hl
  clear hr hx hn hn9 hm
  go_enter Tryz.func93, Tryz.ntmps93
  go_wp2_with fail
  go_loopw [5, 6] (fun v i wr => ∃ (k : Nat) (S : Nat → Prop), k ≤ m ∧ i = .int .i64 (k : Int) ∧ Below w.heap.size w wr ∧ OwnS 3 30 IsR wr w.heap.size S v (rawV ((zbx n l).take k)) ∧ Hid (∀ b, S b → w.heap.size ≤ b)) (fun _ i _ => m - (intOf i).toNat)
  case atStart => exact ⟨0, fun _ => False, Nat.zero_le _, rfl, Below.refl _ _, by simpa [rawV] using (OwnS.nil (fun b h => False.elim h) : OwnS 3 30 IsR w w.heap.size (fun _ => False) _ _), fun _ h => False.elim h⟩
  case round =>
    obtain ⟨k, S, hk, rfl, hbw, hown, hS⟩ := hrel
    have Hbw := Lib.hid hbw
    have HS := Lib.hid hS.out
    have Hown := Lib.hid hown
    have hsz := hbw.size
    clear hown hS
    rcases Nat.lt_or_ge k m with hlt | hge
    · obtain ⟨x, hxk⟩ := some_at (l := l) (j := k) (by rw [← Hn.out]; exact hlt)
      obtain ⟨_, g, o, rfl, hg, hc0⟩ := isIL_get HR.out hxk
      have hc : wr.cell? ⟨g, o + k, none⟩ = some (.int .i64 x) := zac hbw hc0
      have Hxk := Lib.hid hxk
      have hx9 := Hx.out x (List.mem_of_getElem? hxk)
      clear hxk hbw hc0
      go_wp2_with fail
      refine (ratio_i (a := x) (b := n) og HN.out.1 (Nat.lt_of_le_of_lt HN.out.2 og)).mono ?_
      rintro e w2 ⟨⟨v2, rfl, hv2⟩, hb⟩
      have Hb2 := Lib.hid hb
      have Hv2 := Lib.hid hv2
      have Hbs := Lib.hid (zaa Hbw.out hb)
      have hbase : w.heap.size ≤ w2.heap.size := Hbs.out.size
      obtain ⟨s2, P2, k2, O2, l2, rfl, _, _, _⟩ := zar hv2
      have hown2 := OwnS.step IsR.stb (T := fun b => S b ∨ (wr.heap.size ≤ b ∧ b < w2.heap.size)) Hown.out Hb2.out (fun b h => .inl h) (fun b h => h)
      have hel2 := IsQ.stb.to Hv2.out (zav (T := fun b => S b ∨ (wr.heap.size ≤ b ∧ b < w2.heap.size)) fun b h => .inr h)
      clear hb hv2 hc
      go_wp2_with (at_builtin; refine wp_appS elR rfl _ _ rfl IsR.stb rfl rfl rfl hown2 hel2 rfl (by intro u hu; simp [Value.cells] at hu; rcases hu with rfl | rfl | rfl <;> rfl) (by have h1 := List.length_take_le k (zbx n l); rw [show (rawV ((zbx n l).take k)).length = ((zbx n l).take k).length from List.length_map _]; omega) hbase ?_; intro v3 w3 hown3 hb3 hz3)
      go_roundw
      case rel =>
        refine ⟨k + 1, fun b => S b ∨ (wr.heap.size ≤ b ∧ b < w2.heap.size), by omega, by go_num, Hbs.out.trans hb3, ?_, fun b hb => by rcases hb with hb | hb; exact HS.out b hb; omega⟩
        rw [partsQ_snoc Hxk.out, rawV, List.map_append]
        exact hown3
      case measure => simp [intOf]; omega
    · obtain rfl : k = m := og
      clear hbw
      go_wp2_with fail
      go_ret
      refine ⟨⟨_, rfl, ?_⟩, Hbw.out⟩
      have h1 := OwnS.isS IsR.stb (T := New w.heap.size wr) Hown.out (fun b hb => ⟨HS.out b hb, by obtain ⟨_, _, _, _, h4⟩ := Hown.out; exact (h4 b hb).1⟩) (fun b h1 h2 => ⟨h1, h2⟩)
      rw [List.take_of_length_le (by rw [partsQ_len, ← Hn.out]; exact Nat.le_refl _)] at h1
      exact h1
theorem whole_l25 {w : World} {A : Option Addr} {c m : Nat} {l : List Int} (hr : IsIL w (Old w) (.slice A m c) l) (hm : m = l.length) (hl : l.length ≤ 40) (hx : ∀ x ∈ l, x.natAbs ≤ 1000000) :
    Calls Tryz.prog 95 #[.slice A m c] w (RetP w 1 l) := by
  have HR := Lib.hid (parts25_l hr hm hl hx (n := 1) (by omega) (by omega))
  clear hr hm hl hx
  go_enter Tryz.func95, Tryz.ntmps95
  go_wp2_with fail
  refine HR.out.mono ?_
  rintro e w1 ⟨⟨v, rfl, hv⟩, hb⟩
  go_wp2_with fail
  go_ret
  exact ⟨⟨_, rfl, hv⟩, hb⟩
end Go.Proofs.YtijjjbgnpfjpmaaGreatDoor
namespace Go.Proofs.YtijjjbgnpfjpmaaGreatDoor
set_option linter.unusedVariables false
def zbh (zs : List (List Int)) : List (List Rat) := zs.map (zbx 1)
structure FormZ (sz : List Nat) (zs : List (List Int)) : Prop where
  l1 : 1 ≤ sz.length
  l3 : sz.length ≤ 3
  pos : ∀ x ∈ sz, 1 ≤ x
  le3 : ∀ x ∈ sz, x ≤ 3
  len : zs.length = sz.length
  row : ∀ z ∈ zs, z.length = prd sz ∧ ∀ x ∈ z, x.natAbs ≤ 3
theorem paysZ_int {sz : List Nat} {zs : List (List Int)} (h : FormZ sz zs) : IntPs (zbh zs) := fun r hr q hq => by
  obtain ⟨z, hz, rfl⟩ := List.mem_map.1 hr
  obtain ⟨x, hx, rfl⟩ := List.mem_map.1 hq
  exact ⟨x, Rat.mkRat_one x, (h.row z hz).2 x hx⟩
theorem prd_le3 {sz : List Nat} (h : ∀ x ∈ sz, x ≤ 3) (hl : sz.length ≤ 3) : prd sz ≤ 27 ∧ sz.sum ≤ 9 := by
  rcases sz with _ | ⟨a, _ | ⟨b, _ | ⟨c, _ | ⟨d, l⟩⟩⟩⟩
  · exact ⟨by decide, by decide⟩
  · have ha := h a (by simp)
    rw [zco, prd_nil]; simp; omega
  · have ha := h a (by simp)
    have hb := h b (by simp)
    have := Nat.mul_le_mul ha hb
    rw [zco, zco, prd_nil]; simp; omega
  · have ha := h a (by simp)
    have hb := h b (by simp)
    have hc := h c (by simp)
    have := Nat.mul_le_mul ha (Nat.mul_le_mul hb hc)
    rw [zco, zco, zco, prd_nil]; simp; omega
  · simp at hl
theorem FormZ.nf {sz : List Nat} {zs : List (List Int)} (h : FormZ sz zs) : NFok sz (zbh zs) := by
  obtain ⟨h1, h2⟩ := prd_le3 h.le3 h.l3
  refine ⟨h.l1, Nat.le_trans h.l3 (by omega), h.pos, by omega, by omega, by rw [zbh, List.length_map, h.len], fun r hr => ?_, fun r hr q hq => ?_⟩
  · obtain ⟨z, hz, rfl⟩ := List.mem_map.1 hr
    rw [partsQ_len, (h.row z hz).1]
  · obtain ⟨x, rfl, hx⟩ := paysZ_int h r hr q hq
    rw [← Rat.mkRat_one x]
    exact mk_l1 (by omega) (by omega) (by omega)
def secZ : List (List Int) := [[1, -1, -1, 1], [-1, 1, 1, -1]]
theorem sec_form : FormZ [2, 2] secZ := ⟨by decide, by decide, by decide, by decide, by decide, by decide⟩
def exA : List (List Nat) := [[0, 0], [1, 1]]
def exB : List (List Nat) := [[0, 0], [0, 1], [0, 0]]
theorem exA_ok : PlOk [2, 2] exA := by
  intro r hr
  simp [exA] at hr
  rcases hr with rfl | rfl
  all_goals
    refine ⟨rfl, fun i x y hx hy => ?_⟩
    rcases i with _ | _ | i <;> simp at hx hy <;> omega
theorem exB_ok : PlOk [2, 2] exB := by
  intro r hr
  simp [exB] at hr
  rcases hr with rfl | rfl | rfl
  all_goals
    refine ⟨rfl, fun i x y hx hy => ?_⟩
    rcases i with _ | _ | i <;> simp at hx hy <;> omega
theorem exA_hist : zaz [2, 2] exA = zbx 2 [1, 0, 0, 1] := by kernel_rfl
theorem exB_hist : zaz [2, 2] exB = zbx 3 [2, 1, 0, 0] := by kernel_rfl
theorem exA_slack : slackQ [2, 2] (zbh secZ) (zaz [2, 2] exA) = 1 := by kernel_rfl
theorem int_sz {z : Int} (h : z.natAbs ≤ 1000000) : Sz (z : Rat) 100000 := by
  have h1 : L1Q (mkRat z 1) := mk_l1 (by omega) (by omega) (by omega)
  rw [Rat.mkRat_one] at h1
  exact ⟨Nat.le_trans h1.1.len (by omega), Nat.le_trans h1.2.len (by omega)⟩
theorem l1_sz {q : Rat} (h : L1Q q) : Sz q 100000 := ⟨Nat.le_trans h.1.len (by omega), Nat.le_trans h.2.len (by omega)⟩
theorem payQ_int {ps : List (List Rat)} (h : IntPs ps) (sz : List Nat) (p : Nat) (r : List Nat) : ∃ x : Int, payQ sz ps p r = (x : Rat) ∧ x.natAbs ≤ 3 := int_getD h p _
theorem payQ_sz {ps : List (List Rat)} (h : IntPs ps) (sz : List Nat) (p : Nat) (r : List Nat) : Sz (payQ sz ps p r) 100000 := by
  obtain ⟨x, hx, h3⟩ := payQ_int h sz p r
  rw [hx]
  exact int_sz (by omega)
theorem more_int {ps : List (List Rat)} (h : IntPs ps) (sz : List Nat) (p : Nat) (r s : List Nat) : ∃ x : Int, payQ sz ps p r - payQ sz ps p s = (x : Rat) ∧ x.natAbs ≤ 6 := by
  obtain ⟨x, hx, h3⟩ := payQ_int h sz p r
  obtain ⟨y, hy, h4⟩ := payQ_int h sz p s
  exact ⟨x - y, by rw [hx, hy, Rat.intCast_sub], by omega⟩
theorem more_sz {ps : List (List Rat)} (h : IntPs ps) (sz : List Nat) (p : Nat) (r s : List Nat) : Sz (payQ sz ps p r - payQ sz ps p s) 100000 := by
  obtain ⟨x, hx, h3⟩ := more_int h sz p r s
  rw [hx]
  exact int_sz (by omega)
theorem more_at {sz : List Nat} {ps : List (List Rat)} {ll : List (List Nat)} {p t q : Nat} {r : List Nat} (h : ll[q]? = some r) : (zdh sz ps ll p t)[q]? = some (payQ sz ps p (r.set p t) - payQ sz ps p r) := by
  unfold zdh
  rw [List.getElem?_map, h]
  rfl
theorem tot_int {l : List Rat} (h : ∀ e ∈ l, ∃ x : Int, e = (x : Rat) ∧ x.natAbs ≤ 6) (q : Nat) : ∃ z : Int, tot l q = (z : Rat) ∧ z.natAbs ≤ 6 * q := by
  induction q with
  | zero => exact ⟨0, rfl, by simp⟩
  | succ q ih =>
    obtain ⟨z, hz, hz6⟩ := ih
    by_cases hq : q < l.length
    · obtain ⟨x, hx, hx6⟩ := h _ (List.getElem_mem hq)
      exact ⟨z + x, by rw [zfm (List.getElem?_eq_getElem hq), hz, hx, Rat.intCast_add], by omega⟩
    · refine ⟨z, ?_, by omega⟩
      rw [← hz]
      unfold tot
      rw [List.take_of_length_le (by omega), List.take_of_length_le (by omega)]
theorem tot_more_sz {sz : List Nat} {ps : List (List Rat)} (h : IntPs ps) (ll : List (List Nat)) (p t : Nat) {q : Nat} (hq : q ≤ 30) : Sz (tot (zdh sz ps ll p t) q) 100000 := by
  obtain ⟨z, hz, hz6⟩ := tot_int (l := zdh sz ps ll p t) (fun e he => by
    unfold zdh at he
    obtain ⟨r, _, rfl⟩ := List.mem_map.1 he
    exact more_int h sz p _ _) q
  rw [hz]
  exact int_sz (by omega)
theorem set_self {r : List Nat} {p x : Nat} (h : r[p]? = some x) : r.set p x = r := by
  refine List.ext_getElem? fun j => ?_
  rw [List.getElem?_set]
  split
  · next e => subst e; rw [if_pos (List.getElem?_eq_some_iff.1 h).1, h]
  · rfl
section
variable {P : Program} {ops : Array Oper} {Q : Exit → Act → World → Prop} {md : Region.Mode} {tl : List Nat} {S C : World → Prop}
theorem twoA {i j : Nat} {oi oj : Oper} {fuel : Nat} {listed : Array Bool} {a : Act} {w : World} (hr : Region.ready md ops listed = [i, j]) (hi : ops[i]? = some oi) (hj : ops[j]? = some oj) (hwi : Region.wanted oi (yielded ops a.tmps) = true) (hwj : Region.wanted oj (yielded ops a.tmps) = true)
    (h1 : ∀ K : Act → World → Prop, Shut (∀ a w, S w → C w → (S w → C w → zbn P md ops Q tl S C fuel (listed.setIfInBounds i true) a w) → K a w) → Oper.wp P oi a w K Q)
    (h2 : ∀ K : Act → World → Prop, Shut (∀ a w, S w → C w → (S w → C w → zbn P md ops Q tl S C fuel (listed.setIfInBounds j true) a w) → K a w) → Oper.wp P oj a w K Q) : zbn P md ops Q tl S C (fuel + 1) listed a w := by
  refine ⟨fun h0 => (by rw [hr] at h0; cases h0), fun k hk => ?_⟩
  rw [hr] at hk
  rcases List.mem_cons.1 hk with rfl | hk
  · refine wpOp_step hi fun K hK => ?_
    rw [if_pos hwi]
    exact h1 K fun a w hS hC hW => hK a w ⟨⟨hS, fun _ => hC⟩, hW hS hC⟩
  · rw [List.mem_singleton] at hk
    subst hk
    refine wpOp_step hj fun K hK => ?_
    rw [if_pos hwj]
    exact h2 K fun a w hS hC hW => hK a w ⟨⟨hS, fun _ => hC⟩, hW hS hC⟩
end
end Go.Proofs.YtijjjbgnpfjpmaaGreatDoor
namespace Go.Proofs.YtijjjbgnpfjpmaaGreatDoor
open Go.RowKit
set_option linter.unusedVariables false
theorem wrap_two {T y : Nat} (h : T + y ≤ 36) : wrap64 (wrap64 (T : Int) + (y : Int)) = ((T + y : Nat) : Int) := by
  unfold wrap64
  omega
def hor (sz r : List Nat) : Nat → Nat
  | 0 => 0
  | k + 1 => hor sz r k * sz.getD k 0 + r.getD k 0
theorem hor_num {sz : List Nat} (r : List Nat) {k : Nat} (hk : k ≤ sz.length) : hor sz r k * prd (sz.drop k) + numL (sz.drop k) (r.drop k) = numL sz r := by
  induction k with
  | zero => simp [hor]
  | succ k ih =>
    have hx := List.getElem?_eq_getElem (show k < sz.length from hk)
    have h1 := ih (by omega)
    rw [prd_drop hx, numL_drop r hx] at h1
    have e : sz.getD k 0 = sz[k] := by rw [List.getD_eq_getElem?_getD, hx]; rfl
    rw [hor, e, Nat.add_mul, Nat.mul_assoc]
    omega
theorem hor_end {sz : List Nat} (r : List Nat) : hor sz r sz.length = numL sz r := by
  have h := hor_num r (Nat.le_refl sz.length)
  rw [List.drop_length, prd_nil, Nat.mul_one] at h
  simpa [numL] using h
theorem hor_le {sz : List Nat} (r : List Nat) (hp : ∀ x ∈ sz, 1 ≤ x) {k : Nat} (hk : k ≤ sz.length) : hor sz r k ≤ numL sz r := by
  have h := hor_num r hk
  have h1 : 1 ≤ prd (sz.drop k) := by
    have := prd_pos (l := sz.drop k) (fun x hx => hp x (List.mem_of_mem_drop hx)) (sz.drop k).length
    rwa [List.take_length] at this
  have h2 : hor sz r k * 1 ≤ hor sz r k * prd (sz.drop k) := Nat.mul_le_mul_left _ h1
  omega
set_option maxRecDepth 100000 in
set_option maxHeartbeats 1000000 in
theorem at_f {w : World} {A R : Option Addr} {a b : Nat} {sz r : List Nat} (hs : IsNs w (.slice A sz.length a) sz) (hr : IsNs w (.slice R sz.length b) r) (hl : r.length = sz.length) (hp : ∀ x ∈ sz, 1 ≤ x) (h36 : ∀ x ∈ sz, x ≤ 36) (hn : numL sz r ≤ 36) (hb : ∀ x ∈ r, x ≤ 36) (h4 : sz.length ≤ 4) {z : Int} (hz : z = (numL sz r : Nat)) :
    Calls Tryz.prog 105 #[.slice A sz.length a, .slice R sz.length b] w fun e w' => e = .returned (.int .i64 z) ∧ Below w.heap.size w w' := by
  have HS := Lib.hid hs
  have HR := Lib.hid hr
  have HN := Lib.hid hn
  have HP := Lib.hid hp
  have HL := Lib.hid hl
  have H36 := Lib.hid (And.intro h36 hb)
  have HZ := Lib.hid hz
  clear hs hr hn hp h36 hb hz hl
  go_enter Tryz.func105, Tryz.ntmps105
  go_wp2_with fail
  go_loopw [5, 6] (fun h i wr => ∃ k : Nat, k ≤ sz.length ∧ i = .int .i64 (k : Nat) ∧ h = .int .i64 (hor sz r k : Nat) ∧ Below w.heap.size w wr) (fun _ i _ => sz.length - (intOf i).toNat)
  case atStart => exact ⟨0, Nat.zero_le _, rfl, rfl, Below.refl _ _⟩
  case round =>
    obtain ⟨k, hk, rfl, rfl, hbw⟩ := hrel
    have HBW := Lib.hid hbw
    rcases Nat.lt_or_ge k sz.length with hlt | hge
    · have hx := List.getElem?_eq_getElem hlt
      obtain ⟨x, hxe⟩ : ∃ x, x = sz[k] := ⟨_, rfl⟩
      rw [← hxe] at hx
      have hlr : k < r.length := by rw [HL.out]; exact hlt
      have hy := List.getElem?_eq_getElem hlr
      obtain ⟨y, hye⟩ : ∃ y, y = r[k] := ⟨_, rfl⟩
      rw [← hye] at hy
      obtain ⟨b1, o1, rfl, _, hc1⟩ := HS.out.at hx
      obtain ⟨b2, o2, rfl, _, hc2⟩ := HR.out.at hy
      replace hc1 := zac hbw hc1
      replace hc2 := zac hbw hc2
      have hx36 := H36.out.1 x (List.mem_of_getElem? hx)
      have hy36 := H36.out.2 y (List.mem_of_getElem? hy)
      have h1 := hor_le (sz := sz) r HP.out hk
      have h2 := hor_le (sz := sz) r HP.out (show k + 1 ≤ sz.length from hlt)
      have hn36 := HN.out
      have e1 : sz.getD k 0 = x := by rw [List.getD_eq_getElem?_getD, hx]; rfl
      have e2 : r.getD k 0 = y := by rw [List.getD_eq_getElem?_getD, hy]; rfl
      have e3 : hor sz r (k + 1) = hor sz r k * x + y := by rw [hor, e1, e2]
      obtain ⟨q, hq⟩ : ∃ q, q = hor sz r k := ⟨_, rfl⟩
      obtain ⟨T, hT⟩ : ∃ T, T = q * x := ⟨_, rfl⟩
      rw [← hq] at e3 h1 ⊢
      rw [← hT] at e3
      have hTy : T + y ≤ 36 := by have h3 := h2; rw [e3] at h3; omega
      have hTi : (q : Int) * (x : Int) = (T : Int) := by rw [hT]; simp
      have hTw : IntKind.i64.wrap ((q : Int) * (x : Int)) = (T : Int) := by rw [hTi]; exact IntWalk.i64_in _ (by omega)
      have hKS : ((k : Int) < (sz.length : Int)) := by omega
      have E3 := Lib.hid e3
      clear hx hxe hy hye hq hT e1 e2 e3 hbw hlr
      go_wp2_with fail
      go_quiet (fail)
      go_wp2_with fail
      have hB2 := below_drewN HBW.out nq
      have hv := wrap_two (T := T) (y := y) hTy
      go_roundw
      case rel => exact ⟨k + 1, by omega, by go_num, by rw [E3.out]; simp, hB2⟩
      case measure => simp [intOf]; omega
    · obtain rfl : k = sz.length := og
      have e := hor_end (sz := sz) r
      rw [e, ← HZ.out]
      go_wp2_with fail
      go_ret
      exact ⟨rfl, HBW.out⟩
theorem ret_raty {fn : Func} {slot sb : Tmp} {R : Ending → World → Prop} {a : Act} {w : World} {g : Nat} {x y z u : Value} (hr : fn.results = #[.cell slot 30, .tmp sb]) (ha : a.tmps.getD slot undef = .pointer (some ⟨g, 0, none⟩)) (hb : a.tmps.getD sb undef = u) (hd : a.defers = [])
    (h : Row w g 30 [x, y, z]) (hR : R (.returned (.tuple #[.agg #[x, y, z], u])) w) : bodyPost Tryz.prog fn R .ret a w := by
  refine bodyPost_ret (v := .tuple #[.agg #[x, y, z], u]) ?_ hd hR
  obtain ⟨h0, h1, h2⟩ := zab h
  have ha' : a.tmps[slot]?.getD undef = .pointer (some ⟨g, 0, none⟩) := by simpa using ha
  have hb' : a.tmps[sb]?.getD undef = u := by simpa using hb
  simp [results, hr, ha', hb', asAddr, go_sem, h0, h1, h2]
theorem ret_formy {fn : Func} {slot sb sc : Tmp} {R : Ending → World → Prop} {a : Act} {w : World} {g : Nat} {x0 x1 x2 x3 x4 y z : Value} (hr : fn.results = #[.cell slot 137, .tmp sb, .tmp sc]) (ha : a.tmps.getD slot undef = .pointer (some ⟨g, 0, none⟩)) (hb : a.tmps.getD sb undef = y) (hc : a.tmps.getD sc undef = z) (hd : a.defers = [])
    (h : Row w g 137 [x0, x1, x2, x3, x4]) (hR : R (.returned (.tuple #[.agg #[x0, x1, x2, x3, x4], y, z])) w) : bodyPost Tryz.prog fn R .ret a w := by
  refine bodyPost_ret (v := .tuple #[.agg #[x0, x1, x2, x3, x4], y, z]) ?_ hd hR
  obtain ⟨h0, h1, h2, h3, h4⟩ := row5 h
  have ha' : a.tmps[slot]?.getD undef = .pointer (some ⟨g, 0, none⟩) := by simpa using ha
  have hb' : a.tmps[sb]?.getD undef = y := by simpa using hb
  have hc' : a.tmps[sc]?.getD undef = z := by simpa using hc
  simp [results, hr, ha', hb', hc', asAddr, go_sem, h0, h1, h2, h3, h4]
def RetR0 (w : World) (q : Rat) (e : Ending) (w' : World) : Prop := (∃ v, e = .returned (.tuple #[v, .int .i64 0]) ∧ IsQ w' (Tu w') v q) ∧ Below w.heap.size w w'
set_option maxHeartbeats 1000000 in
theorem one_f {w : World} {v : Value} {q : Rat} (h : IsF w v q) (hq : L1Q q) : Calls Tryz.prog 101 #[v] w (RetR0 w q) := by
  have HX := Lib.hid h
  obtain ⟨s, A, m, c, B, n, d, rfl⟩ : ∃ s A m c B n d, v = .agg #[.bool s, .slice A m c, .slice B n d] := by
    obtain ⟨A5, m5, c5, B5, n5, d5, h5, _, _⟩ := h
    exact ⟨_, _, _, _, _, _, _, h5⟩
  obtain ⟨w0, hw0, hb0, rX, rZ, Hz⟩ := zbj w #[.bool s, .slice A m c, .slice B n d] #[.bool false, .slice none 0 0, .slice none 0 0] 150 30
  obtain ⟨x0, x1, x2⟩ := zab rX
  have HZ := Lib.hid rZ
  have HB := Lib.hid hb0
  clear rX rZ hb0 h
  go_enter Tryz.func101, Tryz.ntmps101
  go_wp2_with fail
  clear hw0
  refine (rat_f (HX.out.next HB.out) hq).mono ?_
  rintro e w1 ⟨⟨v1, rfl, hv1⟩, hb1⟩
  have V1 := Lib.hid hv1
  obtain ⟨neg, A4, c4, B4, d4, rfl, _, _, _⟩ := zar (IsQ.stb.to hv1 (zav tu_lt))
  obtain ⟨w2, hw2, hb2, rB, Hz2⟩ := zao w1 #[.bool false, .slice none 0 0, .slice none 0 0] 30
  obtain ⟨w3, hw3⟩ : ∃ x, (put3 w2 w1.heap.size (.bool neg) (.slice A4 (lim q.num.natAbs).length c4) (.slice B4 (lim q.den).length d4)) = x := ⟨_, rfl⟩
  have hb3 : Below w1.heap.size w1 w3 := by rw [← hw3]; exact zad hb2 (Nat.le_refl _) _ _ _
  have R3 : Hid (Row w3 w1.heap.size 30 [.bool neg, .slice A4 (lim q.num.natAbs).length c4, .slice B4 (lim q.den).length d4]) := by rw [← hw3]; exact rB.put3 _ _ _
  have HB3 := Lib.hid (zaa HB.out (zaa hb1 hb3))
  have HZ3 := Lib.hid (HZ.out.next (zaa hb1 hb3))
  have V3 := Lib.hid (IsQ.stb.to V1.out (KT.of hb3).same)
  obtain ⟨b0, b1, b2⟩ := zab rB
  obtain ⟨i0, i1, i2⟩ := zan rB
  obtain ⟨c0, c1, c2⟩ := zab R3.out
  obtain ⟨d0, d1, d2⟩ := zab HZ3.out
  obtain ⟨j0, j1, j2⟩ := zan HZ3.out
  clear hb1 hb2 hb3 rB hv1
  go_wp2_with fail
  refine ret_raty Tryz.results101 rfl rfl rfl (HZ3.out.put3 _ _ _) ⟨⟨_, rfl, IsQ.stb.to V3.out (kt_put3 rat_ne.1 rat_ne.2.1 HZ3.out _ _ _).same⟩, zad HB3.out (by omega) _ _ _⟩
def RetD (w : World) (sz : List Nat) (ps : List (List Rat)) (d : List Rat) (e : Ending) (w' : World) : Prop := (∃ v vd, e = .returned (.tuple #[v, vd, .int .i64 0]) ∧ IsForm w' v sz ps ∧ IsFs w' vd d) ∧ Below w.heap.size w w'
set_option maxRecDepth 100000 in
set_option maxHeartbeats 1000000 in
theorem dist_ok {w : World} {v vd : Value} {sz : List Nat} {ps : List (List Rat)} {d : List Rat} (h : IsNF w v sz ps) (ok : NFok sz ps) (hd : IsV w (Old w) vd (d.map raw)) (okd : PrOk d) (hl : d.length = prd sz) (hB : Bru w) : Calls Tryz.prog 100 #[v, vd] w (RetD w sz ps d) := by
  have H := Lib.hid h
  obtain ⟨A, c, B, b, rfl, h1, h2⟩ := h
  have H1 := Lib.hid h1
  have HD := Lib.hid hd
  have OK := Lib.hid ok
  have OKd := Lib.hid okd
  have HL := Lib.hid hl
  have HB := Lib.hid hB
  obtain ⟨D, e0, rfl, _⟩ := zcb hd
  obtain ⟨w0, hw0, hb0, rX, rZ, Hz⟩ := zbj w #[.slice A sz.length c, .slice B ps.length b] #[.slice none 0 0, .slice none 0 0, .slice none 0 0, .int .i64 0, .slice none 0 0] 64 137
  have HB0 := Lib.hid hb0
  have RX := Lib.hid rX
  have RZ := Lib.hid rZ
  obtain ⟨x0, x1⟩ := row2 rX
  clear h1 h2 ok okd hl hB hd rX rZ hb0
  go_enter Tryz.func100, Tryz.ntmps100
  go_wp2_with fail
  clear hw0
  refine (read_ok (H.out.next HB0.out) OK.out (Bru.next HB.out HB0.out)).mono ?_
  rintro e w1 ⟨⟨A1, c1, B1, b1, S, P, cP, hv, rfl, hS, hRS, hFM⟩, hb1⟩
  simp only [Value.agg.injEq] at hv
  injection hv with hv
  simp only [List.cons.injEq, Value.slice.injEq, and_true, true_and] at hv
  obtain ⟨⟨rfl, rfl⟩, rfl, rfl⟩ := hv
  have HRS := Lib.hid hRS
  have HFM := Lib.hid hFM
  have HSn := Lib.hid hS
  obtain ⟨M, hM⟩ : ∃ M : Int, M = ((prd sz : Nat) : Int) := ⟨_, rfl⟩
  rw [← hM]
  have HM := Lib.hid hM
  clear hM
  obtain ⟨w2, hw2, hb2, rB, Hz2⟩ := zao w1 #[.slice none 0 0, .slice none 0 0, .slice none 0 0, .int .i64 0, .slice none 0 0] 137
  obtain ⟨w3, hw3⟩ : ∃ x, (pt5 w2 w1.heap.size (.slice A sz.length c) (.slice B ps.length b) (.slice (some ⟨S, 0, none⟩) sz.length sz.length) (.int .i64 M) (.slice P ps.length cP)) = x := ⟨_, rfl⟩
  have hb3 : Below w1.heap.size w1 w3 := by rw [← hw3]; exact zbs hb2 (Nat.le_refl _) _ _ _ _ _
  have R3 : Hid (Row w3 w1.heap.size 137 [.slice A sz.length c, .slice B ps.length b, .slice (some ⟨S, 0, none⟩) sz.length sz.length, .int .i64 M, .slice P ps.length cP]) := by rw [← hw3]; exact rB.pt5 _ _ _ _ _
  have HB3 := Lib.hid (zaa HB0.out (zaa hb1 hb3))
  have RZ3 := Lib.hid (RZ.out.next (zaa hb1 hb3))
  have HRS3 := Lib.hid (HRS.out.next hb3)
  have HFM3 := Lib.hid (HFM.out.next hb3)
  obtain ⟨b0, b1, b2, b3, b4⟩ := row5 rB
  obtain ⟨i0, i1, i2, i3, i4⟩ := fre5 rB
  obtain ⟨c0, c1, c2, c3, c4⟩ := row5 R3.out
  clear hb1 hb2 hb3 rB hRS hFM hS x0 x1
  go_wp2_with fail
  clear hw2 hw3
  have hn : M = (d.length : Int) := by rw [HM.out, HL.out]
  have hp := probs_ok (n := M) (IsV.stb.next HD.out HB3.out) OKd.out (Bru.next HB.out HB3.out) hn
  rw [List.length_map] at hp
  clear hn
  refine hp.mono ?_
  rintro e w4 ⟨⟨v4, rfl, hv4⟩, hb4⟩
  have V4 := Lib.hid hv4
  have HB4 := Lib.hid (zaa HB3.out hb4)
  have R4 := Lib.hid (R3.out.next hb4)
  have RZ4 := Lib.hid (RZ3.out.next hb4)
  have HRS4 := Lib.hid (HRS3.out.next hb4)
  have HFM4 := Lib.hid (HFM3.out.next hb4)
  clear b0 b1 b2 b3 b4 i0 i1 i2 i3 i4 c0 c1 c2 c3 c4 hv4 hb4
  obtain ⟨c0, c1, c2, c3, c4⟩ := row5 R4.out
  obtain ⟨z0, z1, z2, z3, z4⟩ := row5 RZ4.out
  obtain ⟨i0, i1, i2, i3, i4⟩ := fre5 RZ4.out
  go_wp2_with fail
  have hBW := zbs (g := w.heap.size + 1) HB4.out (by omega) (.slice A sz.length c) (.slice B ps.length b) (.slice (some ⟨S, 0, none⟩) sz.length sz.length) (.int .i64 M) (.slice P ps.length cP)
  have hk := kf_far (w' := pt5 w4 (w.heap.size + 1) (.slice A sz.length c) (.slice B ps.length b) (.slice (some ⟨S, 0, none⟩) sz.length sz.length) (.int .i64 M) (.slice P ps.length cP)) (v := .slice P ps.length cP) (ps := ps) RZ4.out (by simp [pt5, World.setCell]) (fun b hb => heap_pt5 _ _ _ _ _ _ _ hb)
  have hne : S ≠ w.heap.size + 1 := by have := HSn.out; have := RZ.out.lt; omega
  have hg2 := HRS4.out.far5 hne (.slice A sz.length c) (.slice B ps.length b) (.slice (some ⟨S, 0, none⟩) sz.length sz.length) (.int .i64 M) (.slice P ps.length cP)
  have hg3 := zfd hg2 (stp_len sz).symm (by rw [stp_len]; have := OK.out.l4; unfold maxLen; omega)
  have hform : IsForm (pt5 w4 (w.heap.size + 1) (.slice A sz.length c) (.slice B ps.length b) (.slice (some ⟨S, 0, none⟩) sz.length sz.length) (.int .i64 M) (.slice P ps.length cP)) (.agg #[.slice A sz.length c, .slice B ps.length b, .slice (some ⟨S, 0, none⟩) sz.length sz.length, .int .i64 M, .slice P ps.length cP]) sz ps := by
    rw [HM.out] at hBW hk hg3 ⊢
    exact ⟨A, c, B, b, _, _, P, cP, rfl, H1.out.next hBW, hg3, hk.2 HFM4.out⟩
  have hfs := V4.out.kf hk.1
  exact ret_formy Tryz.results100 rfl rfl rfl rfl (RZ4.out.pt5 _ _ _ _ _) ⟨⟨_, _, rfl, hform, hfs⟩, hBW⟩
section
variable {F : Fence} {n : Nat} {P : Program}
theorem wpIn_rangeFunc_E {σ : Type} {g : Operand} {ps : Array Tmp} {assign body : Code} {Q : Exit → Act → World → Prop} {a : Act} {w : World}
    (hro : F.round = none) (h1 : 1 ≤ n) {gf : Nat} {lb : Array Value} (hg : a.eval g = .func (.func gf) #[] lb) (hFg : F.fn gf) (eg : ∀ args w, (callFunc gf args).run P w = .ok (.enter gf args) w)
    {Val : Nat → σ → Array Value → Prop} {Rd : σ → World → Prop} {N : Nat} {w0 : World} (hseq : SeqD F (n - 1) P gf lb Val Rd N w0) (hb0 : Below w0.heap.size w0 w) (hps : ∀ k s vs, Val k s vs → vs.size = ps.size)
    (I : Nat × σ → World → Prop) (hI : OwnFrom w.heap.size I) (hRd : ∀ k s W, I (k, s) W → Rd s W) (hskip : ∀ k s W, I (k, s) W → k < N → (∀ vs, ¬ Val k s vs) → I (k + 1, s) W) (h0 : ∃ s, I (0, s) w) (A₁ : Nat → σ → Array Value → Act → World → Prop)
    (hA : ∀ k s vs a', OwnFrom w.heap.size (fun (_ : Unit) W => A₁ k s vs a' W))
    (hassign : ∀ (l k : Nat) (s : σ) (vs : Array Value) (W : World) (K : Act → World → Prop), w.heap.size ≤ l → (∃ r, W.heap[l]? = some (.loop r)) → I (k, s) W → k < N → Val k s vs → (∀ a' W', KeepsFrom w.heap.size W W' → A₁ k s vs a' W' → K a' W') →
      assign.wpIn (F.inRound l) (n - 1 - 1) P (Exit.then K (fun _ _ _ => False)) { tmps := (ps.zip vs).foldl (fun t (p, v) => t.setIfInBounds p v) a.tmps, defers := [] } W)
    (hbody : ∀ (l k : Nat) (s : σ) (vs : Array Value) (a' : Act) (W : World), w.heap.size ≤ l → (∃ r, W.heap[l]? = some (.loop r)) → A₁ k s vs a' W → k < N → Val k s vs → body.wpIn (F.inRound l) (n - 1 - 1) P (endD w.heap.size I k W) a' W)
    (hdone : ∀ (D : Nat) (s : σ) (W : World), w.heap.size ≤ D → I (N, s) W → W.heap[D]? = some (.deferred (some [])) → Q .normal { a with defers := { target := .collected D, args := #[] } :: a.defers } W) :
    (Code.rangeFunc g ps assign body).wpIn F n P Q a w := by
  refine wpIn_rangeFunc fun fn hfn => ?_
  rw [hro]
  obtain ⟨D, hD⟩ : ∃ D, D = w.heap.size := ⟨_, rfl⟩
  obtain ⟨rec, hrec⟩ : ∃ rec : LoopState → Option Code → Loop, rec = fun st pe => { state := st, pending := pe, fn, tmps := a.tmps, params := ps, assign, body, defers := D } := ⟨_, rfl⟩
  obtain ⟨V, hV⟩ : ∃ V, V = (w.alloc (.deferred (some []))).alloc (.loop (rec .ready none)) := ⟨_, rfl⟩
  have recAt : V.heap[D + 1]? = some (.loop (rec .ready none)) := by
    have h := World.alloc_heap_new (w.alloc (.deferred (some []))) (.loop (rec .ready none))
    rw [World.size_alloc] at h
    rw [hV, hD]
    exact h
  have defAt : V.heap[D]? = some (.deferred (some [])) := by
    rw [hV, hD]
    exact (Below.heap_alloc _ _ _ (by simp)).trans (World.alloc_heap_new w _)
  have hIV : ∃ s, I (0, s) V := by
    obtain ⟨s, hs⟩ := h0
    exact ⟨s, by rw [hV]; exact hI.alloc _ (hI.alloc _ hs)⟩
  have hVsize : V.heap.size = D + 2 := by rw [hV, hD]; simp
  have hbV : Below w0.heap.size w0 V := by
    rw [hV]
    exact hb0.trans ((((Below.refl _ w).alloc (Nat.le_refl _) _).alloc (by simp) _).mono hb0.size)
  rw [← hD] at hI hA hassign hbody hdone
  refine ⟨D + 1, [{ target := .collected D, args := #[] }], V, { target := .fn (.func gf) lb, args := #[.func (.yield (D + 1)) #[] #[]] }, V, gf, #[.func (.yield (D + 1)) #[] #[]] ++ lb, V, ?_, ?_, ?_, ?_, fun _ => h1, ?_⟩
  · rw [hV, hrec, hD]
    exact run_enterLoop_outer _ _ _ _ _
  · simp only [resolve, hg]
    simp [go_sem]
  · intro f' hf'
    simp [Target.leads] at hf'
    subst hf'
    exact hFg
  · simp [invoke, go_sem, eg]
  have walk : ∀ {A B : World} {row : Option Nat}, (∀ r, row = some r → V.heap.size ≤ r ∧ ∃ o : Obj, A.heap[r]? = some o ∧ o.isWalk = true) → ∀ r, row = some r → D ≤ r ∧ ∃ o : Obj, A.heap[r]? = some o ∧ o.isCells = false := fun hr r e => by
    obtain ⟨hB, o, ho, hw⟩ := hr r e
    exact ⟨by omega, o, ho, Obj.not_cells_of_walk hw⟩
  refine (hseq (D + 1) (fun p W => I p W ∧ W.heap[D + 1]? = some (.loop (rec .ready none)) ∧ W.heap[D]? = some (.deferred (some []))) V hbV
    (fun p A B row hp hg' hr => ⟨hI p A B row hp.1 hg' (walk (B := B) hr), (grownBy_keeps hg' (fun r e => (hr r e).2) hp.2.1 rfl).trans hp.2.1, (grownBy_keeps hg' (fun r e => (hr r e).2) hp.2.2 rfl).trans hp.2.2⟩)
    (fun k s W1 h => hRd k s W1 h.1) ?round (fun k s W1 h hk hn => ⟨hskip k s W1 h.1 hk hn, h.2⟩) (by obtain ⟨s, hs⟩ := hIV; exact ⟨s, hs, recAt, defAt⟩)).mono ?behind
  case behind =>
    rintro e W ⟨⟨v, rfl⟩, s, hs, hl, hk⟩
    have hend := run_endLoop (P := P) hl (by rw [hrec]; simp)
    rw [hrec] at hend
    exact ⟨none, _, hend, hdone D s _ (Nat.le_refl _) (hI.putObj _ hs (by omega) hl rfl) ((World.putObj_heap_other (by omega)).trans hk)⟩
  case round =>
    rintro k s vs W ⟨hi, hl, hk⟩ hkN hval
    have hlt : D + 1 < W.heap.size := (Array.getElem?_eq_some_iff.1 hl).1
    have hy := run_yield (P := P) (args := vs) hl (by rw [hrec]; exact hps k s vs hval)
    rw [hrec] at hy
    refine ⟨fn, _, assign, body, hy, roundIn_of_wpIn hfn (hassign (D + 1) k s vs W _ (by omega) ⟨_, hl⟩ hi hkN hval fun a' W' hK hA' => ⟨_, run_beginRound (hK.same _ _ (by omega) hl rfl) (by rw [hrec]), ?_⟩)⟩
    have hl' := hK.same _ _ (by omega) hl rfl
    have hk' := hK.same _ _ (Nat.le_refl _) hk rfl
    have hlt' : D + 1 < W'.heap.size := (Array.getElem?_eq_some_iff.1 hl').1
    obtain ⟨B, hB⟩ : ∃ B, B = W'.putObj (D + 1) (.loop { rec .ready none with state := .busy }) := ⟨_, rfl⟩
    have busyAt : B.heap[D + 1]? = some (.loop { rec .ready none with state := .busy }) := by rw [hB]; exact World.putObj_heap_same hlt'
    have defB : B.heap[D]? = some (.deferred (some [])) := by rw [hB]; exact (World.putObj_heap_other (by omega)).trans hk'
    rw [← hB]
    refine wpIn_mono (hbody (D + 1) k s vs a' B (by omega) ⟨_, busyAt⟩ (by rw [hB]; exact (hA k s vs a').putObj (s := ()) _ hA' (by omega) hl' rfl) hkN hval) ?_
    rintro e a3 W3 hp
    cases e with
    | normal =>
      obtain ⟨hk3, s', hs'⟩ := hp
      have hl3 := hk3.same _ _ (by omega) busyAt rfl
      have hend := run_endRound (P := P) none hl3
      rw [hrec] at hend hl3
      refine ⟨_, _, hend, rfl, s', hI.putObj _ hs' (by omega) hl3 rfl, ?_, (World.putObj_heap_other (by omega)).trans (hk3.same _ _ (by omega) defB rfl)⟩
      rw [hrec]
      exact World.putObj_heap_same (Array.getElem?_eq_some_iff.1 hl3).1
    | ret => exact hp.elim
    | exit id => exact hp.elim
    | goto t => exact hp.elim
    | panic ch => exact hp.elim
    | outgrown => exact hp.elim
end
end Go.Proofs.YtijjjbgnpfjpmaaGreatDoor
