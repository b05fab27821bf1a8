/-
  Contracts of the reference's functions on rational numbers: Lowest, Minus, Plus, Times, Order, Zero.
-/
import Derived.Test.YtblpaocignlpkaaGreatDoorBase07
import Derived.Test.YtblpaocignlpkaaGreatDoorProofDualCalls01
import Derived.Test.YtblpaocignlpkaaGreatDoorProofDualCalls02
namespace Go.Proofs.YtblpaocignlpkaaGreatDoor
open Go.RowKit
set_option linter.unusedVariables false

/-- The literal 1. -/
theorem lit_one (w : World) : NumS (w.alloc (.cells #[.int .u32 1] 103)) (New w.heap.size (w.alloc (.cells #[.int .u32 1] 103))) (.slice (some ⟨w.heap.size, 0, none⟩) 1 1) 1 := by
  have h := isL_new .u32 w 103 [1] (by unfold maxLen; decide)
  unfold NumS
  rw [lim_one]
  exact IsL.isK h fun b h1 h2 => ⟨h1, by rw [World.size_alloc]; exact h2⟩

set_option maxHeartbeats 1000000 in
theorem lowest_q {w : World} {va vb : Value} {n d : Nat} {neg : Bool} {q : Rat} (ha : IsN w 0 w.heap.size va n) (hb : IsN w 0 w.heap.size vb d) (hd0 : d ≠ 0) (hn : (lim n).length ≤ 2000000) (hd : (lim d).length ≤ 2000000) (hq : q = mkRat (sg neg n) d) : Calls Tryz.prog 96 #[.bool neg, va, vb] w (RetQ w q) := by
  have Ha := Lib.hid ha
  have Hb := Lib.hid hb
  have Hn := Lib.hid hn
  have Hd := Lib.hid hd
  obtain ⟨A, cA, rfl, _, _, _⟩ := ha
  obtain ⟨B, cB, rfl, _, _, _⟩ := hb
  clear hn hd
  obtain ⟨w0, hw0, hb0, rZ, Hz⟩ := boxes1 w #[.bool false, .slice none 0 0, .slice none 0 0] 31
  have Z_0 := Lib.hid (rZ)
  have bw_0 := Lib.hid (hb0)
  have sz_0 : Hid (w.heap.size + 1 ≤ w0.heap.size) := Lib.hid (Nat.le_of_eq Hz.out.symm)
  clear rZ hb0
  obtain ⟨cZ0_1, cZ1_1, cZ2_1⟩ := cells3 Z_0.out
  obtain ⟨fZ0_1, fZ1_1, fZ2_1⟩ := free3 Z_0.out
  have A_0 := Lib.hid (IsN.next Ha.out bw_0.out)
  have D_0 := Lib.hid (IsN.next Hb.out bw_0.out)
  by_cases h0 : n = 0
  · have e0 := len_zero h0
    have Hq : Hid (q = 0) := by rw [Hid, hq, h0, sg_zero, Rat.zero_mkRat]
    clear h0 hq
    obtain ⟨d0, d1, d2⟩ := cells3 (Row.alloc Z_0.out (.cells #[.int .u32 1] 103))
    obtain ⟨d3, d4, d5⟩ := free3 (Row.alloc Z_0.out (.cells #[.int .u32 1] 103))
    go_enter Tryz.func96, Tryz.ntmps96
    go_wp2_with fail
    rw [Hq.out]
    refine ret_rat Tryz.results96 rfl rfl (Row.put3 (Row.alloc Z_0.out _) _ _ _) (retQ (n := 0) (d := 1) (by rw [raw_zero, lim_zero, lim_one]) (below_stepA bw_0.out _) (Nat.le_refl _) (numS_zero (S := New (w.heap.size + 1) _)) (lit_one w0) (by omega) (by have := Hz.out; omega))
  · have e0 := len_pos h0
    obtain ⟨G, hG⟩ : ∃ G, G = Nat.gcd n d := ⟨_, rfl⟩
    have Hr : Hid (raw q = ⟨neg, lim (n / G), lim (d / G)⟩) := by rw [Hid, hq, hG]; exact raw_ratio h0 hd0
    have HGp : Hid (0 < G) := by rw [Hid, hG]; exact Nat.gcd_pos_of_pos_right _ (by omega)
    have HG := Lib.hid hG
    clear h0 hG hq
    go_enter Tryz.func96, Tryz.ntmps96
    go_wp2_with fail
    clear hw0
    refine ((show Calls Tryz.prog 144 #[.slice A (lim n).length cA, .slice B (lim d).length cB] w0 (fun e w' => (∃ v, e = .returned v ∧ IsN w' 0 w'.heap.size v G) ∧ Below w0.heap.size w0 w') from by rw [HG.out]; exact rcommon_n A_0.out D_0.out (Nat.le_trans Hn.out (by omega)) (Nat.le_trans Hd.out (by omega)))).mono ?_
    rintro e w1 ⟨⟨v1, rfl, hv⟩, hb⟩
    have newG := Lib.hid (hv)
    have Z_1 := Lib.hid (Row.next Z_0.out (hb))
    have bw_1 := Lib.hid (below_step bw_0.out (hb))
    have sz_1 := Lib.hid (size_step sz_0.out (hb))
    have A_1 := Lib.hid (IsN.next A_0.out (hb))
    have D_1 := Lib.hid (IsN.next D_0.out (hb))
    clear Z_0 bw_0 sz_0 A_0 D_0
    have G_0 := newG
    clear newG
    obtain ⟨P1, k1, rfl, _, _, _⟩ := id hv
    clear cZ0_1 cZ1_1 cZ2_1 fZ0_1 fZ1_1 fZ2_1
    obtain ⟨cZ0_2, cZ1_2, cZ2_2⟩ := cells3 Z_1.out
    obtain ⟨fZ0_2, fZ1_2, fZ2_2⟩ := free3 Z_1.out
    go_wp2_with fail
    refine (rover_f A_1.out G_0.out HGp.out (Nat.le_trans Hn.out (by omega))).mono ?_
    rintro e w2 ⟨⟨v2, v2r, rfl, hv2, _⟩, hb⟩
    have newN := Lib.hid (isN_from hv2 sz_1.out)
    have Z_2 := Lib.hid (Row.next Z_1.out (hb))
    have bw_2 := Lib.hid (below_step bw_1.out (hb))
    have sz_2 := Lib.hid (size_step sz_1.out (hb))
    have A_2 := Lib.hid (IsN.next A_1.out (hb))
    have D_2 := Lib.hid (IsN.next D_1.out (hb))
    have G_1 := Lib.hid (IsN.next G_0.out (hb))
    clear Z_1 bw_1 sz_1 A_1 D_1 G_0
    have N_0 := newN
    clear newN
    obtain ⟨P2, k2, rfl, _, _, _⟩ := id hv2
    clear cZ0_2 cZ1_2 cZ2_2 fZ0_2 fZ1_2 fZ2_2
    obtain ⟨cZ0_3, cZ1_3, cZ2_3⟩ := cells3 Z_2.out
    obtain ⟨fZ0_3, fZ1_3, fZ2_3⟩ := free3 Z_2.out
    go_wp2_with fail
    refine (rover_f D_2.out G_1.out HGp.out (Nat.le_trans Hd.out (by omega))).mono ?_
    rintro e w3 ⟨⟨v3, v3r, rfl, hv3, _⟩, hb⟩
    have newE := Lib.hid (isN_from hv3 sz_2.out)
    have Z_3 := Lib.hid (Row.next Z_2.out (hb))
    have bw_3 := Lib.hid (below_step bw_2.out (hb))
    have sz_3 := Lib.hid (size_step sz_2.out (hb))
    have A_3 := Lib.hid (IsN.next A_2.out (hb))
    have D_3 := Lib.hid (IsN.next D_2.out (hb))
    have G_2 := Lib.hid (IsN.next G_1.out (hb))
    have N_1 := Lib.hid (IsK.stb.fresh N_0.out (hb))
    clear Z_2 bw_2 sz_2 A_2 D_2 G_1 N_0
    have E_0 := newE
    clear newE
    obtain ⟨P3, k3, rfl, _, _, _⟩ := id hv3
    clear cZ0_3 cZ1_3 cZ2_3 fZ0_3 fZ1_3 fZ2_3
    obtain ⟨cZ0_4, cZ1_4, cZ2_4⟩ := cells3 Z_3.out
    obtain ⟨fZ0_4, fZ1_4, fZ2_4⟩ := free3 Z_3.out
    go_wp2_with fail
    refine ret_rat Tryz.results96 rfl rfl (Row.put3 Z_3.out _ _ _) (retQ Hr.out bw_3.out (by omega) N_1.out E_0.out (by omega) (by omega))

theorem same_set {w : World} {g o : Nat} {S T : Nat → Prop} {a : Value} (h : ∀ x, S x → x ≠ g ∧ T x) : Same S T w (w.setCell ⟨g, o, none⟩ a) := fun x hx => ⟨(h x hx).2, fun o' => World.cell?_setCell_other _ _ _ _ (fun e => (h x hx).1 (by cases e; rfl))⟩
set_option maxRecDepth 100000 in
set_option maxHeartbeats 400000 in
theorem rneg_s {w : World} {v : Value} {q p : Rat} {S : Nat → Prop} (h : IsQ w S v q) (hS : ∀ b, S b → b < w.heap.size) (hp : p = -q) : Calls Tryz.prog 63 #[v] w (RetS S w p) := by
  subst hp
  have hl : (lim q.num.natAbs).length ≤ 9223372036854775807 := len_max (numS_old (IsK.stb.to (isQ_open h).choose_spec.choose_spec.choose_spec.choose_spec.choose_spec.2.2.1.out (same_imp hS)))
  obtain ⟨neg, A, cA, B, cB, rfl, Hneg, Hn, Hd⟩ := isQ_open h
  have hr := raw_neg_q q
  rw [show raw q = ⟨neg, lim q.num.natAbs, lim q.den⟩ from by rw [Hneg.out]; rfl] at hr
  clear h
  obtain ⟨w0, hw0, hb0, rA, rZ, Hz⟩ := boxes2 w #[.bool neg, .slice A (lim q.num.natAbs).length cA, .slice B (lim q.den).length cB] #[.bool false, .slice none 0 0, .slice none 0 0] 31 31
  have n1 := IsK.stb.to Hn.out (same_below (S := S) hb0 hS)
  have d1 := IsK.stb.to Hd.out (same_below (S := S) hb0 hS)
  obtain ⟨a0, a1, a2⟩ := cells3 rA
  obtain ⟨fa0, fa1, fa2⟩ := free3 rA
  obtain ⟨z0, z1, z2⟩ := cells3 rZ
  obtain ⟨f0, f1, f2⟩ := free3 rZ
  have Rz := Lib.hid rZ
  have Hb := Lib.hid hb0
  have HN := Lib.hid n1
  have HD := Lib.hid d1
  clear rA rZ hb0 n1 d1
  have hfin : ∀ s : Bool, raw (-q) = ⟨s, lim q.num.natAbs, lim q.den⟩ → RetS S w (-q) (.returned (.agg #[.bool s, .slice A (lim q.num.natAbs).length cA, .slice B (lim q.den).length cB])) (put3 (w0.setCell ⟨w.heap.size, 0, none⟩ (.bool s)) (w.heap.size + 1) (.bool s) (.slice A (lim q.num.natAbs).length cA) (.slice B (lim q.den).length cB)) := fun s hs => by
    have k1 := IsK.stb.to HN.out (same_set (g := w.heap.size) (o := 0) (a := .bool s) (T := S) fun b hb => ⟨by have := hS b hb; omega, hb⟩)
    have k2 := IsK.stb.to HD.out (same_set (g := w.heap.size) (o := 0) (a := .bool s) (T := S) fun b hb => ⟨by have := hS b hb; omega, hb⟩)
    exact ⟨⟨_, rfl, isQ_mk hs (IsK.stb.to k1 (same_put3 fun b hb => ⟨by have := hS b hb; omega, hb⟩)) (IsK.stb.to k2 (same_put3 fun b hb => ⟨by have := hS b hb; omega, hb⟩))⟩, below_put3 (Hb.out.setCell (p := ⟨w.heap.size, 0, none⟩) (Nat.le_refl _) _) (by omega) _ _ _⟩
  have Hfin := Lib.hid hfin
  have Hr := Lib.hid hr
  have HS := Lib.hid hS
  clear hfin hr hS
  have hne : w.heap.size ≠ w.heap.size + 1 := by omega
  cases neg with
  | true =>
    go_enter Tryz.func63, Tryz.ntmps63
    go_wp2_with fail
    refine ret_rat Tryz.results63 rfl rfl (Row.put3 (Row.far Rz.out (p := ⟨w.heap.size, 0, none⟩) (by show w.heap.size + 1 ≠ w.heap.size; omega) _) _ _ _) (Hfin.out false (by rw [Hr.out]; rfl))
  | false =>
    go_enter Tryz.func63, Tryz.ntmps63
    go_wp2_with fail
    refine ret_rat Tryz.results63 rfl rfl (Row.put3 (Row.far Rz.out (p := ⟨w.heap.size, 0, none⟩) (by show w.heap.size + 1 ≠ w.heap.size; omega) _) _ _ _) (Hfin.out _ ?_)
    rw [Hr.out]
    congr 1
    rw [Bool.eq_iff_iff]
    have h1 := @num_zero_iff q
    have h2 := @lim_nil_iff q.num.natAbs
    simp
    rw [← h1, ← h2]
    omega

set_option maxRecDepth 100000 in
set_option maxHeartbeats 1000000 in
theorem rmulq {w : World} {va vb : Value} {qa qb qc : Rat} (ha : IsQ w (Old w) va qa) (hb : IsQ w (Old w) vb qb) (hsa : Sz qa 100000) (hsb : Sz qb 100000) (hc : qc = qa * qb) : Calls Tryz.prog 43 #[va, vb] w (RetQ w qc) := by
  have HQa := Lib.hid ha
  obtain ⟨nega, Aa, cAa, Ba, cBa, rfl, Hnega, Hna, Hda⟩ := isQ_open ha
  have HQb := Lib.hid hb
  obtain ⟨negb, Ab, cAb, Bb, cBb, rfl, Hnegb, Hnb, Hdb⟩ := isQ_open hb
  obtain ⟨ng, hng⟩ : ∃ ng : Bool, (!(nega == negb)) = ng := ⟨_, rfl⟩
  obtain ⟨x, hx⟩ : ∃ x, x = qa.num.natAbs * qb.num.natAbs := ⟨_, rfl⟩
  obtain ⟨d, hd⟩ : ∃ d, d = qa.den * qb.den := ⟨_, rfl⟩
  have Hq : Hid (qc = mkRat (sg ng x) d) := by rw [Hid, hc, ← hng, hx, hd]; exact (times_over Hnega.out Hnegb.out).symm
  have Hx := Lib.hid hx
  have Hdd := Lib.hid hd
  have Hd0 : Hid (d ≠ 0) := by rw [Hid, hd]; exact Nat.mul_ne_zero qa.den_nz qb.den_nz
  have Lx : Hid ((lim x).length ≤ 2000000) := by rw [Hid, hx]; exact Nat.le_trans (sz_mul hsa.1 hsb.1) (by omega)
  have Ld : Hid ((lim d).length ≤ 2000000) := by rw [Hid, hd]; exact Nat.le_trans (sz_mul hsa.2 hsb.2) (by omega)
  have Hsa := Lib.hid hsa
  have Hsb := Lib.hid hsb
  clear ha hb hc hsa hsb hx hd
  obtain ⟨w0, hw0, hb0, ra, rb, rZ, Hz⟩ := boxes3 w #[.bool nega, .slice Aa (lim qa.num.natAbs).length cAa, .slice Ba (lim qa.den).length cBa] #[.bool negb, .slice Ab (lim qb.num.natAbs).length cAb, .slice Bb (lim qb.den).length cBb] #[.bool false, .slice none 0 0, .slice none 0 0] 31 31 31
  have Qa_0 := Lib.hid (IsQ.stb.next HQa.out hb0)
  have Ra_0 := Lib.hid (ra)
  have Qb_0 := Lib.hid (IsQ.stb.next HQb.out hb0)
  have Rb_0 := Lib.hid (rb)
  have Z_0 := Lib.hid (rZ)
  have bw_0 := Lib.hid (hb0)
  have sz_0 : Hid (w.heap.size + 3 ≤ w0.heap.size) := Lib.hid (Nat.le_of_eq Hz.out.symm)
  clear ra rb rZ hb0
  obtain ⟨cRa0_1, cRa1_1, cRa2_1⟩ := cells3 Ra_0.out
  obtain ⟨cRb0_2, cRb1_2, cRb2_2⟩ := cells3 Rb_0.out
  obtain ⟨cZ0_3, cZ1_3, cZ2_3⟩ := cells3 Z_0.out
  obtain ⟨fZ0_3, fZ1_3, fZ2_3⟩ := free3 Z_0.out
  go_enter Tryz.func43, Tryz.ntmps43
  go_wp2_with fail
  clear hw0
  have Qa_1 := Lib.hid (IsQ.stb.next Qa_0.out (below_drew _))
  have Ra_1 := Lib.hid (Row.next Ra_0.out (below_drew _))
  have Qb_1 := Lib.hid (IsQ.stb.next Qb_0.out (below_drew _))
  have Rb_1 := Lib.hid (Row.next Rb_0.out (below_drew _))
  have Z_1 := Lib.hid (Row.next Z_0.out (below_drew _))
  have bw_1 := Lib.hid (below_step bw_0.out (below_drew _))
  have sz_1 := Lib.hid (size_step sz_0.out (below_drew _))
  clear Qa_0 Ra_0 Qb_0 Rb_0 Z_0 bw_0 sz_0
  go_region_held3 (fun w' => w'.cell? ⟨w.heap.size, 0, none⟩ = some (.bool nega) ∧ w'.cell? ⟨w.heap.size, 1, none⟩ = some (.slice Aa (lim qa.num.natAbs).length cAa) ∧ w'.cell? ⟨w.heap.size, 2, none⟩ = some (.slice Ba (lim qa.den).length cBa) ∧ w'.cell? ⟨w.heap.size + 1, 0, none⟩ = some (.bool negb) ∧ w'.cell? ⟨w.heap.size + 1, 1, none⟩ = some (.slice Ab (lim qb.num.natAbs).length cAb) ∧ w'.cell? ⟨w.heap.size + 1, 2, none⟩ = some (.slice Bb (lim qb.den).length cBb))
    (first
      | exact ⟨cRa0_1, cRa1_1, cRa2_1, cRb0_2, cRb1_2, cRb2_2⟩
      | exact ⟨cRa0_4, cRa1_4, cRa2_4, cRb0_5, cRb1_5, cRb2_5⟩
      | exact ⟨cRa0_7, cRa1_7, cRa2_7, cRb0_8, cRb1_8, cRb2_8⟩
      | exact ⟨cRa0_10, cRa1_10, cRa2_10, cRb0_11, cRb1_11, cRb2_11⟩
      | exact ⟨keep_put3 cRa0_10 (by omega), keep_put3 cRa1_10 (by omega), keep_put3 cRa2_10 (by omega), keep_put3 cRb0_11 (by omega), keep_put3 cRb1_11 (by omega), keep_put3 cRb2_11 (by omega)⟩)
    (first
      | (go_at_call 95; have hc := (show Calls Tryz.prog 95 #[.slice Aa (lim qa.num.natAbs).length cAa, .slice Ab (lim qb.num.natAbs).length cAb] (World.drew w0) (fun e w' => (∃ v, e = .returned v ∧ IsN w' (World.heap (World.drew w0)).size w'.heap.size v x) ∧ Below (World.heap (World.drew w0)).size (World.drew w0) w') from by rw [Hx.out]; exact rtimes_n (numS_old (isQ_num Qa_1.out)) (numS_old (isQ_num Qb_1.out)) (Nat.le_refl _) (Nat.le_refl _) (Nat.le_trans Hsa.out.1 (by omega)) (Nat.le_trans Hsb.out.1 (by omega))); (with_reducible refine hc.mono ?_); clear hc; rintro e w1 ⟨⟨v1, rfl, hv⟩, hb⟩; have newX := Lib.hid (isN_from hv sz_1.out); have Qa_2 := Lib.hid (IsQ.stb.next Qa_1.out (hb)); have Ra_2 := Lib.hid (Row.next Ra_1.out (hb)); have Qb_2 := Lib.hid (IsQ.stb.next Qb_1.out (hb)); have Rb_2 := Lib.hid (Row.next Rb_1.out (hb)); have Z_2 := Lib.hid (Row.next Z_1.out (hb)); have bw_2 := Lib.hid (below_step bw_1.out (hb)); have sz_2 := Lib.hid (size_step sz_1.out (hb)); clear Qa_1 Ra_1 Qb_1 Rb_1 Z_1 bw_1 sz_1; have X_0 := newX; clear newX; obtain ⟨P1, k1, rfl, _, _, _⟩ := id hv; clear cRa0_1 cRa1_1 cRa2_1 cRb0_2 cRb1_2 cRb2_2 cZ0_3 cZ1_3 cZ2_3 fZ0_3 fZ1_3 fZ2_3; obtain ⟨cRa0_4, cRa1_4, cRa2_4⟩ := cells3 Ra_2.out; obtain ⟨cRb0_5, cRb1_5, cRb2_5⟩ := cells3 Rb_2.out; obtain ⟨cZ0_6, cZ1_6, cZ2_6⟩ := cells3 Z_2.out; obtain ⟨fZ0_6, fZ1_6, fZ2_6⟩ := free3 Z_2.out)
      | (go_at_call 95; have hc := (show Calls Tryz.prog 95 #[.slice Ba (lim qa.den).length cBa, .slice Bb (lim qb.den).length cBb] w1 (fun e w' => (∃ v, e = .returned v ∧ IsN w' (World.heap w1).size w'.heap.size v d) ∧ Below (World.heap w1).size w1 w') from by rw [Hdd.out]; exact rtimes_n (numS_old (isQ_den Qa_2.out)) (numS_old (isQ_den Qb_2.out)) (Nat.le_refl _) (Nat.le_refl _) (Nat.le_trans Hsa.out.2 (by omega)) (Nat.le_trans Hsb.out.2 (by omega))); (with_reducible refine hc.mono ?_); clear hc; rintro e w2 ⟨⟨v2, rfl, hv2⟩, hb⟩; have newD := Lib.hid (isN_from hv2 sz_2.out); have Qa_3 := Lib.hid (IsQ.stb.next Qa_2.out (hb)); have Ra_3 := Lib.hid (Row.next Ra_2.out (hb)); have Qb_3 := Lib.hid (IsQ.stb.next Qb_2.out (hb)); have Rb_3 := Lib.hid (Row.next Rb_2.out (hb)); have Z_3 := Lib.hid (Row.next Z_2.out (hb)); have bw_3 := Lib.hid (below_step bw_2.out (hb)); have sz_3 := Lib.hid (size_step sz_2.out (hb)); have X_1 := Lib.hid (IsK.stb.fresh X_0.out (hb)); clear Qa_2 Ra_2 Qb_2 Rb_2 Z_2 bw_2 sz_2 X_0; have D_0 := newD; clear newD; obtain ⟨P2, k2, rfl, _, _, _⟩ := id hv2; clear cRa0_4 cRa1_4 cRa2_4 cRb0_5 cRb1_5 cRb2_5 cZ0_6 cZ1_6 cZ2_6 fZ0_6 fZ1_6 fZ2_6; obtain ⟨cRa0_7, cRa1_7, cRa2_7⟩ := cells3 Ra_3.out; obtain ⟨cRb0_8, cRb1_8, cRb2_8⟩ := cells3 Rb_3.out; obtain ⟨cZ0_9, cZ1_9, cZ2_9⟩ := cells3 Z_3.out; obtain ⟨fZ0_9, fZ1_9, fZ2_9⟩ := free3 Z_3.out)
      | (go_at_call 96; have hc := lowest_q (neg := ng) (numS_old (IsK.stb.old X_1.out)) (numS_old (IsK.stb.old D_0.out)) Hd0.out Lx.out Ld.out Hq.out; (with_reducible refine hc.mono ?_); clear hc; rintro e w3 ⟨⟨v3, rfl, hv3⟩, hb⟩; have newV := Lib.hid (IsQ.stb.le hv3 sz_3.out); have Qa_4 := Lib.hid (IsQ.stb.next Qa_3.out (hb)); have Ra_4 := Lib.hid (Row.next Ra_3.out (hb)); have Qb_4 := Lib.hid (IsQ.stb.next Qb_3.out (hb)); have Rb_4 := Lib.hid (Row.next Rb_3.out (hb)); have Z_4 := Lib.hid (Row.next Z_3.out (hb)); have bw_4 := Lib.hid (below_step bw_3.out (hb)); have sz_4 := Lib.hid (size_step sz_3.out (hb)); have X_2 := Lib.hid (IsK.stb.fresh X_1.out (hb)); have D_1 := Lib.hid (IsK.stb.fresh D_0.out (hb)); clear Qa_3 Ra_3 Qb_3 Rb_3 Z_3 bw_3 sz_3 X_1 D_0; have V_0 := newV; clear newV; obtain ⟨s3, P3, k3, O3, l3, rfl, _, _, _⟩ := isQ_open hv3; clear cRa0_7 cRa1_7 cRa2_7 cRb0_8 cRb1_8 cRb2_8 cZ0_9 cZ1_9 cZ2_9 fZ0_9 fZ1_9 fZ2_9; obtain ⟨cRa0_10, cRa1_10, cRa2_10⟩ := cells3 Ra_4.out; obtain ⟨cRb0_11, cRb1_11, cRb2_11⟩ := cells3 Rb_4.out; obtain ⟨cZ0_12, cZ1_12, cZ2_12⟩ := cells3 Z_4.out; obtain ⟨fZ0_12, fZ1_12, fZ2_12⟩ := free3 Z_4.out))
  go_wp2_with fail
  refine ret_rat Tryz.results43 rfl rfl (Row.put3 Z_4.out _ _ _) (retQ2 V_0.out bw_4.out (by omega) (by omega))

set_option maxRecDepth 100000 in
set_option maxHeartbeats 2000000 in
theorem raddq {w : World} {va vb : Value} {qa qb qc : Rat} (ha : IsQ w (Old w) va qa) (hb : IsQ w (Old w) vb qb) (hsa : Sz qa 100000) (hsb : Sz qb 100000) (hc : qc = qa + qb) : Calls Tryz.prog 42 #[va, vb] w (RetQ w qc) := by
  have HQa := Lib.hid ha
  obtain ⟨nega, Aa, cAa, Ba, cBa, rfl, Hnega, Hna, Hda⟩ := isQ_open ha
  have HQb := Lib.hid hb
  obtain ⟨negb, Ab, cAb, Bb, cBb, rfl, Hnegb, Hnb, Hdb⟩ := isQ_open hb
  obtain ⟨x, hx⟩ : ∃ x, x = qa.num.natAbs * qb.den := ⟨_, rfl⟩
  obtain ⟨y, hy⟩ : ∃ y, y = qb.num.natAbs * qa.den := ⟨_, rfl⟩
  obtain ⟨d, hd⟩ : ∃ d, d = qa.den * qb.den := ⟨_, rfl⟩
  have Hov : Hid (∀ (neg : Bool) (n : Nat), sg neg n = sg nega x + sg negb y → qc = mkRat (sg neg n) d) := fun neg n h => by rw [hc, hd]; exact (plus_over Hnega.out Hnegb.out (by rw [h, hx, hy])).symm
  have Hx := Lib.hid hx
  have Hy := Lib.hid hy
  have Hdd := Lib.hid hd
  have Hd0 : Hid (d ≠ 0) := by rw [Hid, hd]; exact Nat.mul_ne_zero qa.den_nz qb.den_nz
  have Lx : Hid ((lim x).length ≤ 200000) := by rw [Hid, hx]; exact sz_mul hsa.1 hsb.2
  have Ly : Hid ((lim y).length ≤ 200000) := by rw [Hid, hy]; exact sz_mul hsb.1 hsa.2
  have Ld : Hid ((lim d).length ≤ 2000000) := by rw [Hid, hd]; exact Nat.le_trans (sz_mul hsa.2 hsb.2) (by omega)
  have Hsa := Lib.hid hsa
  have Hsb := Lib.hid hsb
  clear ha hb hc hsa hsb hx hy hd
  obtain ⟨w0, hw0, hb0, ra, rb, rZ, Hz⟩ := boxes3 w #[.bool nega, .slice Aa (lim qa.num.natAbs).length cAa, .slice Ba (lim qa.den).length cBa] #[.bool negb, .slice Ab (lim qb.num.natAbs).length cAb, .slice Bb (lim qb.den).length cBb] #[.bool false, .slice none 0 0, .slice none 0 0] 31 31 31
  have Qa_0 := Lib.hid (IsQ.stb.next HQa.out hb0)
  have Ra_0 := Lib.hid (ra)
  have Qb_0 := Lib.hid (IsQ.stb.next HQb.out hb0)
  have Rb_0 := Lib.hid (rb)
  have Z_0 := Lib.hid (rZ)
  have bw_0 := Lib.hid (hb0)
  have sz_0 : Hid (w.heap.size + 3 ≤ w0.heap.size) := Lib.hid (Nat.le_of_eq Hz.out.symm)
  clear ra rb rZ hb0
  obtain ⟨cRa0_1, cRa1_1, cRa2_1⟩ := cells3 Ra_0.out
  obtain ⟨cRb0_2, cRb1_2, cRb2_2⟩ := cells3 Rb_0.out
  obtain ⟨cZ0_3, cZ1_3, cZ2_3⟩ := cells3 Z_0.out
  obtain ⟨fZ0_3, fZ1_3, fZ2_3⟩ := free3 Z_0.out
  go_enter Tryz.func42, Tryz.ntmps42
  go_wp2_with fail
  clear hw0
  have Qa_1 := Lib.hid (IsQ.stb.next Qa_0.out (below_drew _))
  have Ra_1 := Lib.hid (Row.next Ra_0.out (below_drew _))
  have Qb_1 := Lib.hid (IsQ.stb.next Qb_0.out (below_drew _))
  have Rb_1 := Lib.hid (Row.next Rb_0.out (below_drew _))
  have Z_1 := Lib.hid (Row.next Z_0.out (below_drew _))
  have bw_1 := Lib.hid (below_step bw_0.out (below_drew _))
  have sz_1 := Lib.hid (size_step sz_0.out (below_drew _))
  clear Qa_0 Ra_0 Qb_0 Rb_0 Z_0 bw_0 sz_0
  go_region_held3 (fun w' => w'.cell? ⟨w.heap.size, 1, none⟩ = some (.slice Aa (lim qa.num.natAbs).length cAa) ∧ w'.cell? ⟨w.heap.size, 2, none⟩ = some (.slice Ba (lim qa.den).length cBa) ∧ w'.cell? ⟨w.heap.size + 1, 1, none⟩ = some (.slice Ab (lim qb.num.natAbs).length cAb) ∧ w'.cell? ⟨w.heap.size + 1, 2, none⟩ = some (.slice Bb (lim qb.den).length cBb))
    (first
      | exact ⟨cRa1_1, cRa2_1, cRb1_2, cRb2_2⟩
      | exact ⟨cRa1_4, cRa2_4, cRb1_5, cRb2_5⟩
      | exact ⟨cRa1_7, cRa2_7, cRb1_8, cRb2_8⟩
      | exact ⟨cRa1_10, cRa2_10, cRb1_11, cRb2_11⟩)
    (first
      | (go_at_call 95; have hc := (show Calls Tryz.prog 95 #[.slice Aa (lim qa.num.natAbs).length cAa, .slice Bb (lim qb.den).length cBb] (World.drew w0) (fun e w' => (∃ v, e = .returned v ∧ IsN w' (World.heap (World.drew w0)).size w'.heap.size v x) ∧ Below (World.heap (World.drew w0)).size (World.drew w0) w') from by rw [Hx.out]; exact rtimes_n (numS_old (isQ_num Qa_1.out)) (numS_old (isQ_den Qb_1.out)) (Nat.le_refl _) (Nat.le_refl _) (Nat.le_trans Hsa.out.1 (by omega)) (Nat.le_trans Hsb.out.2 (by omega))); (with_reducible refine hc.mono ?_); clear hc; rintro e w1 ⟨⟨v1, rfl, hv⟩, hb⟩; have newX := Lib.hid (isN_from hv sz_1.out); have Qa_2 := Lib.hid (IsQ.stb.next Qa_1.out (hb)); have Ra_2 := Lib.hid (Row.next Ra_1.out (hb)); have Qb_2 := Lib.hid (IsQ.stb.next Qb_1.out (hb)); have Rb_2 := Lib.hid (Row.next Rb_1.out (hb)); have Z_2 := Lib.hid (Row.next Z_1.out (hb)); have bw_2 := Lib.hid (below_step bw_1.out (hb)); have sz_2 := Lib.hid (size_step sz_1.out (hb)); clear Qa_1 Ra_1 Qb_1 Rb_1 Z_1 bw_1 sz_1; have X_0 := newX; clear newX; obtain ⟨P1, k1, rfl, _, _, _⟩ := id hv; clear cRa0_1 cRa1_1 cRa2_1 cRb0_2 cRb1_2 cRb2_2 cZ0_3 cZ1_3 cZ2_3 fZ0_3 fZ1_3 fZ2_3; obtain ⟨cRa0_4, cRa1_4, cRa2_4⟩ := cells3 Ra_2.out; obtain ⟨cRb0_5, cRb1_5, cRb2_5⟩ := cells3 Rb_2.out; obtain ⟨cZ0_6, cZ1_6, cZ2_6⟩ := cells3 Z_2.out; obtain ⟨fZ0_6, fZ1_6, fZ2_6⟩ := free3 Z_2.out)
      | (go_at_call 95; have hc := (show Calls Tryz.prog 95 #[.slice Ab (lim qb.num.natAbs).length cAb, .slice Ba (lim qa.den).length cBa] w1 (fun e w' => (∃ v, e = .returned v ∧ IsN w' (World.heap w1).size w'.heap.size v y) ∧ Below (World.heap w1).size w1 w') from by rw [Hy.out]; exact rtimes_n (numS_old (isQ_num Qb_2.out)) (numS_old (isQ_den Qa_2.out)) (Nat.le_refl _) (Nat.le_refl _) (Nat.le_trans Hsb.out.1 (by omega)) (Nat.le_trans Hsa.out.2 (by omega))); (with_reducible refine hc.mono ?_); clear hc; rintro e w2 ⟨⟨v2, rfl, hv2⟩, hb⟩; have newY := Lib.hid (isN_from hv2 sz_2.out); have Qa_3 := Lib.hid (IsQ.stb.next Qa_2.out (hb)); have Ra_3 := Lib.hid (Row.next Ra_2.out (hb)); have Qb_3 := Lib.hid (IsQ.stb.next Qb_2.out (hb)); have Rb_3 := Lib.hid (Row.next Rb_2.out (hb)); have Z_3 := Lib.hid (Row.next Z_2.out (hb)); have bw_3 := Lib.hid (below_step bw_2.out (hb)); have sz_3 := Lib.hid (size_step sz_2.out (hb)); have X_1 := Lib.hid (IsK.stb.fresh X_0.out (hb)); clear Qa_2 Ra_2 Qb_2 Rb_2 Z_2 bw_2 sz_2 X_0; have Y_0 := newY; clear newY; obtain ⟨P2, k2, rfl, _, _, _⟩ := id hv2; clear cRa0_4 cRa1_4 cRa2_4 cRb0_5 cRb1_5 cRb2_5 cZ0_6 cZ1_6 cZ2_6 fZ0_6 fZ1_6 fZ2_6; obtain ⟨cRa0_7, cRa1_7, cRa2_7⟩ := cells3 Ra_3.out; obtain ⟨cRb0_8, cRb1_8, cRb2_8⟩ := cells3 Rb_3.out; obtain ⟨cZ0_9, cZ1_9, cZ2_9⟩ := cells3 Z_3.out; obtain ⟨fZ0_9, fZ1_9, fZ2_9⟩ := free3 Z_3.out)
      | (go_at_call 95; have hc := (show Calls Tryz.prog 95 #[.slice Ba (lim qa.den).length cBa, .slice Bb (lim qb.den).length cBb] w2 (fun e w' => (∃ v, e = .returned v ∧ IsN w' (World.heap w2).size w'.heap.size v d) ∧ Below (World.heap w2).size w2 w') from by rw [Hdd.out]; exact rtimes_n (numS_old (isQ_den Qa_3.out)) (numS_old (isQ_den Qb_3.out)) (Nat.le_refl _) (Nat.le_refl _) (Nat.le_trans Hsa.out.2 (by omega)) (Nat.le_trans Hsb.out.2 (by omega))); (with_reducible refine hc.mono ?_); clear hc; rintro e w3 ⟨⟨v3, rfl, hv3⟩, hb⟩; have newD := Lib.hid (isN_from hv3 sz_3.out); have Qa_4 := Lib.hid (IsQ.stb.next Qa_3.out (hb)); have Ra_4 := Lib.hid (Row.next Ra_3.out (hb)); have Qb_4 := Lib.hid (IsQ.stb.next Qb_3.out (hb)); have Rb_4 := Lib.hid (Row.next Rb_3.out (hb)); have Z_4 := Lib.hid (Row.next Z_3.out (hb)); have bw_4 := Lib.hid (below_step bw_3.out (hb)); have sz_4 := Lib.hid (size_step sz_3.out (hb)); have X_2 := Lib.hid (IsK.stb.fresh X_1.out (hb)); have Y_1 := Lib.hid (IsK.stb.fresh Y_0.out (hb)); clear Qa_3 Ra_3 Qb_3 Rb_3 Z_3 bw_3 sz_3 X_1 Y_0; have D_0 := newD; clear newD; obtain ⟨P3, k3, rfl, _, _, _⟩ := id hv3; clear cRa0_7 cRa1_7 cRa2_7 cRb0_8 cRb1_8 cRb2_8 cZ0_9 cZ1_9 cZ2_9 fZ0_9 fZ1_9 fZ2_9; obtain ⟨cRa0_10, cRa1_10, cRa2_10⟩ := cells3 Ra_4.out; obtain ⟨cRb0_11, cRb1_11, cRb2_11⟩ := cells3 Rb_4.out; obtain ⟨cZ0_12, cZ1_12, cZ2_12⟩ := cells3 Z_4.out; obtain ⟨fZ0_12, fZ1_12, fZ2_12⟩ := free3 Z_4.out))
  rcases (by cases nega <;> cases negb <;> simp : (nega == negb) = true ∨ (nega == negb) = false) with hs | hs
  · have Hs : Hid (negb = nega) := by unfold Hid; cases nega <;> cases negb <;> simp at hs ⊢
    obtain ⟨n, hn⟩ : ∃ n, n = x + y := ⟨_, rfl⟩
    have Hq : Hid (qc = mkRat (sg nega n) d) := Hov.out _ _ (by rw [Hs.out, hn, sg_add])
    have Hnl : Hid ((lim n).length ≤ 2000000) := by rw [Hid, hn]; exact Nat.le_trans (sz_add Lx.out Ly.out) (by omega)
    have Hn := Lib.hid hn
    clear hn
    go_wp2_with fail
    have Qa_5 := Lib.hid (IsQ.stb.next Qa_4.out (below_drew _))
    have Ra_5 := Lib.hid (Row.next Ra_4.out (below_drew _))
    have Qb_5 := Lib.hid (IsQ.stb.next Qb_4.out (below_drew _))
    have Rb_5 := Lib.hid (Row.next Rb_4.out (below_drew _))
    have Z_5 := Lib.hid (Row.next Z_4.out (below_drew _))
    have bw_5 := Lib.hid (below_step bw_4.out (below_drew _))
    have sz_5 := Lib.hid (size_step sz_4.out (below_drew _))
    have X_3 := Lib.hid (IsK.stb.fresh X_2.out (below_drew _))
    have Y_2 := Lib.hid (IsK.stb.fresh Y_1.out (below_drew _))
    have D_1 := Lib.hid (IsK.stb.fresh D_0.out (below_drew _))
    clear Qa_4 Ra_4 Qb_4 Rb_4 Z_4 bw_4 sz_4 X_2 Y_1 D_0
    go_region_held3 (fun w' => w'.cell? ⟨w.heap.size, 0, none⟩ = some (.bool nega))
      (first
        | exact cRa0_10
        | exact cRa0_13
        | exact cRa0_16
        | exact keep_put3 cRa0_16 (by omega))
      (first
        | (go_at_call 97; have hc := (show Calls Tryz.prog 97 #[.slice P1 (lim x).length k1, .slice P2 (lim y).length k2] (World.drew w3) (fun e w' => (∃ v, e = .returned v ∧ IsN w' (World.heap (World.drew w3)).size w'.heap.size v n) ∧ Below (World.heap (World.drew w3)).size (World.drew w3) w') from by rw [Hn.out]; exact rplus_n (numS_old (IsK.stb.old X_3.out)) (numS_old (IsK.stb.old Y_2.out)) (Nat.le_refl _) (Nat.le_refl _) (Nat.le_trans Lx.out (by omega)) (Nat.le_trans Ly.out (by omega))); (with_reducible refine hc.mono ?_); clear hc; rintro e wp1 ⟨⟨v4, rfl, hv4⟩, hb⟩; have newN := Lib.hid (isN_from hv4 sz_5.out); have Qa_6 := Lib.hid (IsQ.stb.next Qa_5.out (hb)); have Ra_6 := Lib.hid (Row.next Ra_5.out (hb)); have Qb_6 := Lib.hid (IsQ.stb.next Qb_5.out (hb)); have Rb_6 := Lib.hid (Row.next Rb_5.out (hb)); have Z_6 := Lib.hid (Row.next Z_5.out (hb)); have bw_6 := Lib.hid (below_step bw_5.out (hb)); have sz_6 := Lib.hid (size_step sz_5.out (hb)); have X_4 := Lib.hid (IsK.stb.fresh X_3.out (hb)); have Y_3 := Lib.hid (IsK.stb.fresh Y_2.out (hb)); have D_2 := Lib.hid (IsK.stb.fresh D_1.out (hb)); clear Qa_5 Ra_5 Qb_5 Rb_5 Z_5 bw_5 sz_5 X_3 Y_2 D_1; have N_0 := newN; clear newN; obtain ⟨P4, k4, rfl, _, _, _⟩ := id hv4; clear cRa0_10 cRa1_10 cRa2_10 cRb0_11 cRb1_11 cRb2_11 cZ0_12 cZ1_12 cZ2_12 fZ0_12 fZ1_12 fZ2_12; obtain ⟨cRa0_13, cRa1_13, cRa2_13⟩ := cells3 Ra_6.out; obtain ⟨cRb0_14, cRb1_14, cRb2_14⟩ := cells3 Rb_6.out; obtain ⟨cZ0_15, cZ1_15, cZ2_15⟩ := cells3 Z_6.out; obtain ⟨fZ0_15, fZ1_15, fZ2_15⟩ := free3 Z_6.out)
        | (go_at_call 96; have hc := lowest_q (neg := nega) (numS_old (IsK.stb.old N_0.out)) (numS_old (IsK.stb.old D_2.out)) Hd0.out Hnl.out Ld.out Hq.out; (with_reducible refine hc.mono ?_); clear hc; rintro e wp2 ⟨⟨v5, rfl, hv5⟩, hb⟩; have newV := Lib.hid (IsQ.stb.le hv5 sz_6.out); have Qa_7 := Lib.hid (IsQ.stb.next Qa_6.out (hb)); have Ra_7 := Lib.hid (Row.next Ra_6.out (hb)); have Qb_7 := Lib.hid (IsQ.stb.next Qb_6.out (hb)); have Rb_7 := Lib.hid (Row.next Rb_6.out (hb)); have Z_7 := Lib.hid (Row.next Z_6.out (hb)); have bw_7 := Lib.hid (below_step bw_6.out (hb)); have sz_7 := Lib.hid (size_step sz_6.out (hb)); have X_5 := Lib.hid (IsK.stb.fresh X_4.out (hb)); have Y_4 := Lib.hid (IsK.stb.fresh Y_3.out (hb)); have D_3 := Lib.hid (IsK.stb.fresh D_2.out (hb)); have N_1 := Lib.hid (IsK.stb.fresh N_0.out (hb)); clear Qa_6 Ra_6 Qb_6 Rb_6 Z_6 bw_6 sz_6 X_4 Y_3 D_2 N_0; have V_0 := newV; clear newV; obtain ⟨s5, P5, k5, O5, l5, rfl, _, _, _⟩ := isQ_open hv5; clear cRa0_13 cRa1_13 cRa2_13 cRb0_14 cRb1_14 cRb2_14 cZ0_15 cZ1_15 cZ2_15 fZ0_15 fZ1_15 fZ2_15; obtain ⟨cRa0_16, cRa1_16, cRa2_16⟩ := cells3 Ra_7.out; obtain ⟨cRb0_17, cRb1_17, cRb2_17⟩ := cells3 Rb_7.out; obtain ⟨cZ0_18, cZ1_18, cZ2_18⟩ := cells3 Z_7.out; obtain ⟨fZ0_18, fZ1_18, fZ2_18⟩ := free3 Z_7.out))
    go_wp2_with fail
    refine ret_rat Tryz.results42 rfl rfl (Row.put3 Z_7.out _ _ _) (retQ2 V_0.out bw_7.out (by omega) (by omega))
  · have Hs : Hid (negb = !nega) := by unfold Hid; cases nega <;> cases negb <;> simp at hs ⊢
    rcases Nat.lt_or_ge x y with hlt | hge
    · have Hlt := Lib.hid hlt
      obtain ⟨n, hn⟩ : ∃ n, n = y - x := ⟨_, rfl⟩
      have Hq : Hid (qc = mkRat (sg negb n) d) := Hov.out _ _ (by rw [Hs.out, hn, sg_sub' (Nat.le_of_lt hlt)]; simp)
      have Hnl : Hid ((lim n).length ≤ 2000000) := by rw [Hid, hn]; exact Nat.le_trans (lim_len_mono (Nat.sub_le _ _)) (Nat.le_trans Ly.out (by omega))
      have Hn := Lib.hid hn
      have Hsg := Lib.hid (sgn_lt hlt)
      clear hn hlt
      go_wp2_with fail
      refine ((show Calls Tryz.prog 98 #[.slice P1 (lim x).length k1, .slice P2 (lim y).length k2] w3 (fun e w' => e = .returned (.int .i64 (-1)) ∧ Below w3.heap.size w3 w') from by rw [← Hsg.out]; exact (rorder_n (numS_old (IsK.stb.old X_2.out)) (numS_old (IsK.stb.old Y_1.out))).mono fun e w' ⟨he, hd⟩ => ⟨he, hd.below _⟩)).mono ?_
      rintro e w4 ⟨rfl, hb⟩
      have Qa_5 := Lib.hid (IsQ.stb.next Qa_4.out (hb))
      have Ra_5 := Lib.hid (Row.next Ra_4.out (hb))
      have Qb_5 := Lib.hid (IsQ.stb.next Qb_4.out (hb))
      have Rb_5 := Lib.hid (Row.next Rb_4.out (hb))
      have Z_5 := Lib.hid (Row.next Z_4.out (hb))
      have bw_5 := Lib.hid (below_step bw_4.out (hb))
      have sz_5 := Lib.hid (size_step sz_4.out (hb))
      have X_3 := Lib.hid (IsK.stb.fresh X_2.out (hb))
      have Y_2 := Lib.hid (IsK.stb.fresh Y_1.out (hb))
      have D_1 := Lib.hid (IsK.stb.fresh D_0.out (hb))
      clear Qa_4 Ra_4 Qb_4 Rb_4 Z_4 bw_4 sz_4 X_2 Y_1 D_0
      clear cRa0_10 cRa1_10 cRa2_10 cRb0_11 cRb1_11 cRb2_11 cZ0_12 cZ1_12 cZ2_12 fZ0_12 fZ1_12 fZ2_12
      obtain ⟨cRa0_13, cRa1_13, cRa2_13⟩ := cells3 Ra_5.out
      obtain ⟨cRb0_14, cRb1_14, cRb2_14⟩ := cells3 Rb_5.out
      obtain ⟨cZ0_15, cZ1_15, cZ2_15⟩ := cells3 Z_5.out
      obtain ⟨fZ0_15, fZ1_15, fZ2_15⟩ := free3 Z_5.out
      go_wp2_with fail
      have Qa_6 := Lib.hid (IsQ.stb.next Qa_5.out (below_drew _))
      have Ra_6 := Lib.hid (Row.next Ra_5.out (below_drew _))
      have Qb_6 := Lib.hid (IsQ.stb.next Qb_5.out (below_drew _))
      have Rb_6 := Lib.hid (Row.next Rb_5.out (below_drew _))
      have Z_6 := Lib.hid (Row.next Z_5.out (below_drew _))
      have bw_6 := Lib.hid (below_step bw_5.out (below_drew _))
      have sz_6 := Lib.hid (size_step sz_5.out (below_drew _))
      have X_4 := Lib.hid (IsK.stb.fresh X_3.out (below_drew _))
      have Y_3 := Lib.hid (IsK.stb.fresh Y_2.out (below_drew _))
      have D_2 := Lib.hid (IsK.stb.fresh D_1.out (below_drew _))
      clear Qa_5 Ra_5 Qb_5 Rb_5 Z_5 bw_5 sz_5 X_3 Y_2 D_1
      go_region_held3 (fun w' => w'.cell? ⟨w.heap.size + 1, 0, none⟩ = some (.bool negb))
        (first
          | exact cRb0_14
          | exact cRb0_17
          | exact cRb0_20
          | exact keep_put3 cRb0_20 (by omega))
        (first
          | (go_at_call 99; have hc := (show Calls Tryz.prog 99 #[.slice P2 (lim y).length k2, .slice P1 (lim x).length k1] (World.drew w4) (fun e w' => (∃ v, e = .returned v ∧ IsN w' (World.heap (World.drew w4)).size w'.heap.size v n) ∧ Below (World.heap (World.drew w4)).size (World.drew w4) w') from by rw [Hn.out]; exact rminus_n (numS_old (IsK.stb.old Y_3.out)) (numS_old (IsK.stb.old X_4.out)) (Nat.le_refl _) (Nat.le_refl _) (Nat.le_of_lt Hlt.out) (Nat.le_trans Ly.out (by omega))); (with_reducible refine hc.mono ?_); clear hc; rintro e wm1 ⟨⟨v5, rfl, hv5⟩, hb⟩; have newN := Lib.hid (isN_from hv5 sz_6.out); have Qa_7 := Lib.hid (IsQ.stb.next Qa_6.out (hb)); have Ra_7 := Lib.hid (Row.next Ra_6.out (hb)); have Qb_7 := Lib.hid (IsQ.stb.next Qb_6.out (hb)); have Rb_7 := Lib.hid (Row.next Rb_6.out (hb)); have Z_7 := Lib.hid (Row.next Z_6.out (hb)); have bw_7 := Lib.hid (below_step bw_6.out (hb)); have sz_7 := Lib.hid (size_step sz_6.out (hb)); have X_5 := Lib.hid (IsK.stb.fresh X_4.out (hb)); have Y_4 := Lib.hid (IsK.stb.fresh Y_3.out (hb)); have D_3 := Lib.hid (IsK.stb.fresh D_2.out (hb)); clear Qa_6 Ra_6 Qb_6 Rb_6 Z_6 bw_6 sz_6 X_4 Y_3 D_2; have N_0 := newN; clear newN; obtain ⟨P5, k5, rfl, _, _, _⟩ := id hv5; clear cRa0_13 cRa1_13 cRa2_13 cRb0_14 cRb1_14 cRb2_14 cZ0_15 cZ1_15 cZ2_15 fZ0_15 fZ1_15 fZ2_15; obtain ⟨cRa0_16, cRa1_16, cRa2_16⟩ := cells3 Ra_7.out; obtain ⟨cRb0_17, cRb1_17, cRb2_17⟩ := cells3 Rb_7.out; obtain ⟨cZ0_18, cZ1_18, cZ2_18⟩ := cells3 Z_7.out; obtain ⟨fZ0_18, fZ1_18, fZ2_18⟩ := free3 Z_7.out)
          | (go_at_call 96; have hc := lowest_q (neg := negb) (numS_old (IsK.stb.old N_0.out)) (numS_old (IsK.stb.old D_3.out)) Hd0.out Hnl.out Ld.out Hq.out; (with_reducible refine hc.mono ?_); clear hc; rintro e wm2 ⟨⟨v6, rfl, hv6⟩, hb⟩; have newV := Lib.hid (IsQ.stb.le hv6 sz_7.out); have Qa_8 := Lib.hid (IsQ.stb.next Qa_7.out (hb)); have Ra_8 := Lib.hid (Row.next Ra_7.out (hb)); have Qb_8 := Lib.hid (IsQ.stb.next Qb_7.out (hb)); have Rb_8 := Lib.hid (Row.next Rb_7.out (hb)); have Z_8 := Lib.hid (Row.next Z_7.out (hb)); have bw_8 := Lib.hid (below_step bw_7.out (hb)); have sz_8 := Lib.hid (size_step sz_7.out (hb)); have X_6 := Lib.hid (IsK.stb.fresh X_5.out (hb)); have Y_5 := Lib.hid (IsK.stb.fresh Y_4.out (hb)); have D_4 := Lib.hid (IsK.stb.fresh D_3.out (hb)); have N_1 := Lib.hid (IsK.stb.fresh N_0.out (hb)); clear Qa_7 Ra_7 Qb_7 Rb_7 Z_7 bw_7 sz_7 X_5 Y_4 D_3 N_0; have V_0 := newV; clear newV; obtain ⟨s6, P6, k6, O6, l6, rfl, _, _, _⟩ := isQ_open hv6; clear cRa0_16 cRa1_16 cRa2_16 cRb0_17 cRb1_17 cRb2_17 cZ0_18 cZ1_18 cZ2_18 fZ0_18 fZ1_18 fZ2_18; obtain ⟨cRa0_19, cRa1_19, cRa2_19⟩ := cells3 Ra_8.out; obtain ⟨cRb0_20, cRb1_20, cRb2_20⟩ := cells3 Rb_8.out; obtain ⟨cZ0_21, cZ1_21, cZ2_21⟩ := cells3 Z_8.out; obtain ⟨fZ0_21, fZ1_21, fZ2_21⟩ := free3 Z_8.out))
      go_wp2_with fail
      refine ret_rat Tryz.results42 rfl rfl (Row.put3 Z_8.out _ _ _) (retQ2 V_0.out bw_8.out (by omega) (by omega))
    · have Hge := Lib.hid hge
      obtain ⟨n, hn⟩ : ∃ n, n = x - y := ⟨_, rfl⟩
      have Hq : Hid (qc = mkRat (sg nega n) d) := Hov.out _ _ (by rw [Hs.out, hn, sg_sub hge])
      have Hnl : Hid ((lim n).length ≤ 2000000) := by rw [Hid, hn]; exact Nat.le_trans (lim_len_mono (Nat.sub_le _ _)) (Nat.le_trans Lx.out (by omega))
      have Hn := Lib.hid hn
      obtain ⟨r, hr, hr0⟩ : ∃ r, r = sgn x y ∧ 0 ≤ r := by
        refine ⟨_, rfl, ?_⟩
        rcases Nat.lt_or_ge y x with h | h
        · rw [sgn_gt h]; omega
        · rw [sgn_eq (Nat.le_antisymm h hge)]; omega
      have Hsg := Lib.hid hr
      clear hn hge hr
      go_wp2_with fail
      refine ((show Calls Tryz.prog 98 #[.slice P1 (lim x).length k1, .slice P2 (lim y).length k2] w3 (fun e w' => e = .returned (.int .i64 r) ∧ Below w3.heap.size w3 w') from by rw [Hsg.out]; exact (rorder_n (numS_old (IsK.stb.old X_2.out)) (numS_old (IsK.stb.old Y_1.out))).mono fun e w' ⟨he, hd⟩ => ⟨he, hd.below _⟩)).mono ?_
      rintro e w4 ⟨rfl, hb⟩
      have Qa_5 := Lib.hid (IsQ.stb.next Qa_4.out (hb))
      have Ra_5 := Lib.hid (Row.next Ra_4.out (hb))
      have Qb_5 := Lib.hid (IsQ.stb.next Qb_4.out (hb))
      have Rb_5 := Lib.hid (Row.next Rb_4.out (hb))
      have Z_5 := Lib.hid (Row.next Z_4.out (hb))
      have bw_5 := Lib.hid (below_step bw_4.out (hb))
      have sz_5 := Lib.hid (size_step sz_4.out (hb))
      have X_3 := Lib.hid (IsK.stb.fresh X_2.out (hb))
      have Y_2 := Lib.hid (IsK.stb.fresh Y_1.out (hb))
      have D_1 := Lib.hid (IsK.stb.fresh D_0.out (hb))
      clear Qa_4 Ra_4 Qb_4 Rb_4 Z_4 bw_4 sz_4 X_2 Y_1 D_0
      clear cRa0_10 cRa1_10 cRa2_10 cRb0_11 cRb1_11 cRb2_11 cZ0_12 cZ1_12 cZ2_12 fZ0_12 fZ1_12 fZ2_12
      obtain ⟨cRa0_13, cRa1_13, cRa2_13⟩ := cells3 Ra_5.out
      obtain ⟨cRb0_14, cRb1_14, cRb2_14⟩ := cells3 Rb_5.out
      obtain ⟨cZ0_15, cZ1_15, cZ2_15⟩ := cells3 Z_5.out
      obtain ⟨fZ0_15, fZ1_15, fZ2_15⟩ := free3 Z_5.out
      go_wp2_with fail
      have Qa_6 := Lib.hid (IsQ.stb.next Qa_5.out (below_drew _))
      have Ra_6 := Lib.hid (Row.next Ra_5.out (below_drew _))
      have Qb_6 := Lib.hid (IsQ.stb.next Qb_5.out (below_drew _))
      have Rb_6 := Lib.hid (Row.next Rb_5.out (below_drew _))
      have Z_6 := Lib.hid (Row.next Z_5.out (below_drew _))
      have bw_6 := Lib.hid (below_step bw_5.out (below_drew _))
      have sz_6 := Lib.hid (size_step sz_5.out (below_drew _))
      have X_4 := Lib.hid (IsK.stb.fresh X_3.out (below_drew _))
      have Y_3 := Lib.hid (IsK.stb.fresh Y_2.out (below_drew _))
      have D_2 := Lib.hid (IsK.stb.fresh D_1.out (below_drew _))
      clear Qa_5 Ra_5 Qb_5 Rb_5 Z_5 bw_5 sz_5 X_3 Y_2 D_1
      go_region_held3 (fun w' => w'.cell? ⟨w.heap.size, 0, none⟩ = some (.bool nega))
        (first
          | exact cRa0_13
          | exact cRa0_16
          | exact cRa0_19
          | exact keep_put3 cRa0_19 (by omega))
        (first
          | (go_at_call 99; have hc := (show Calls Tryz.prog 99 #[.slice P1 (lim x).length k1, .slice P2 (lim y).length k2] (World.drew w4) (fun e w' => (∃ v, e = .returned v ∧ IsN w' (World.heap (World.drew w4)).size w'.heap.size v n) ∧ Below (World.heap (World.drew w4)).size (World.drew w4) w') from by rw [Hn.out]; exact rminus_n (numS_old (IsK.stb.old X_4.out)) (numS_old (IsK.stb.old Y_3.out)) (Nat.le_refl _) (Nat.le_refl _) Hge.out (Nat.le_trans Lx.out (by omega))); (with_reducible refine hc.mono ?_); clear hc; rintro e wm1 ⟨⟨v5, rfl, hv5⟩, hb⟩; have newN := Lib.hid (isN_from hv5 sz_6.out); have Qa_7 := Lib.hid (IsQ.stb.next Qa_6.out (hb)); have Ra_7 := Lib.hid (Row.next Ra_6.out (hb)); have Qb_7 := Lib.hid (IsQ.stb.next Qb_6.out (hb)); have Rb_7 := Lib.hid (Row.next Rb_6.out (hb)); have Z_7 := Lib.hid (Row.next Z_6.out (hb)); have bw_7 := Lib.hid (below_step bw_6.out (hb)); have sz_7 := Lib.hid (size_step sz_6.out (hb)); have X_5 := Lib.hid (IsK.stb.fresh X_4.out (hb)); have Y_4 := Lib.hid (IsK.stb.fresh Y_3.out (hb)); have D_3 := Lib.hid (IsK.stb.fresh D_2.out (hb)); clear Qa_6 Ra_6 Qb_6 Rb_6 Z_6 bw_6 sz_6 X_4 Y_3 D_2; have N_0 := newN; clear newN; obtain ⟨P5, k5, rfl, _, _, _⟩ := id hv5; clear cRa0_13 cRa1_13 cRa2_13 cRb0_14 cRb1_14 cRb2_14 cZ0_15 cZ1_15 cZ2_15 fZ0_15 fZ1_15 fZ2_15; obtain ⟨cRa0_16, cRa1_16, cRa2_16⟩ := cells3 Ra_7.out; obtain ⟨cRb0_17, cRb1_17, cRb2_17⟩ := cells3 Rb_7.out; obtain ⟨cZ0_18, cZ1_18, cZ2_18⟩ := cells3 Z_7.out; obtain ⟨fZ0_18, fZ1_18, fZ2_18⟩ := free3 Z_7.out)
          | (go_at_call 96; have hc := lowest_q (neg := nega) (numS_old (IsK.stb.old N_0.out)) (numS_old (IsK.stb.old D_3.out)) Hd0.out Hnl.out Ld.out Hq.out; (with_reducible refine hc.mono ?_); clear hc; rintro e wm2 ⟨⟨v6, rfl, hv6⟩, hb⟩; have newV := Lib.hid (IsQ.stb.le hv6 sz_7.out); have Qa_8 := Lib.hid (IsQ.stb.next Qa_7.out (hb)); have Ra_8 := Lib.hid (Row.next Ra_7.out (hb)); have Qb_8 := Lib.hid (IsQ.stb.next Qb_7.out (hb)); have Rb_8 := Lib.hid (Row.next Rb_7.out (hb)); have Z_8 := Lib.hid (Row.next Z_7.out (hb)); have bw_8 := Lib.hid (below_step bw_7.out (hb)); have sz_8 := Lib.hid (size_step sz_7.out (hb)); have X_6 := Lib.hid (IsK.stb.fresh X_5.out (hb)); have Y_5 := Lib.hid (IsK.stb.fresh Y_4.out (hb)); have D_4 := Lib.hid (IsK.stb.fresh D_3.out (hb)); have N_1 := Lib.hid (IsK.stb.fresh N_0.out (hb)); clear Qa_7 Ra_7 Qb_7 Rb_7 Z_7 bw_7 sz_7 X_5 Y_4 D_3 N_0; have V_0 := newV; clear newV; obtain ⟨s6, P6, k6, O6, l6, rfl, _, _, _⟩ := isQ_open hv6; clear cRa0_16 cRa1_16 cRa2_16 cRb0_17 cRb1_17 cRb2_17 cZ0_18 cZ1_18 cZ2_18 fZ0_18 fZ1_18 fZ2_18; obtain ⟨cRa0_19, cRa1_19, cRa2_19⟩ := cells3 Ra_8.out; obtain ⟨cRb0_20, cRb1_20, cRb2_20⟩ := cells3 Rb_8.out; obtain ⟨cZ0_21, cZ1_21, cZ2_21⟩ := cells3 Z_8.out; obtain ⟨fZ0_21, fZ1_21, fZ2_21⟩ := free3 Z_8.out))
      go_wp2_with fail
      refine ret_rat Tryz.results42 rfl rfl (Row.put3 Z_8.out _ _ _) (retQ2 V_0.out bw_8.out (by omega) (by omega))

end Go.Proofs.YtblpaocignlpkaaGreatDoor
/-
  The contract of the reference's Check.
-/
namespace Go.Proofs.YtblpaocignlpkaaGreatDoor
open Go.RowKit
set_option linter.unusedVariables false

set_option maxHeartbeats 400000 in
theorem rcheck_l {w : World} {va : Value} {l : List Nat} {lo hi : Nat} (ha : IsL .u32 w lo hi va l) :
    Calls Tryz.prog 170 #[va] w fun e w' => e = .returned (.int .i64 (chk l)) ∧ w = w' := by
  obtain ⟨A, c, rfl, hc, hcm, hA⟩ := ha
  by_cases hlong : 1024 < l.length
  · have H := Lib.hid (chk_long hlong)
    go_enter Tryz.func170, Tryz.ntmps170
    go_wp2
    go_ret
    exact ⟨ret_int H.out.symm, rfl⟩
  · go_enter Tryz.func170, Tryz.ntmps170
    go_wp2
    go_loop [3] (fun i => ∃ k : Nat, k ≤ l.length ∧ i = .int .i64 k ∧ Hid (∀ j, j < k → l.getD j 0 < 1000000000)) (fun i => l.length - (intOf i).toNat)
    case atStart => exact ⟨0, Nat.zero_le _, rfl, fun j hj => by omega⟩
    case round =>
      obtain ⟨k, hk, rfl, hall⟩ := hrel
      by_cases hlt : k < l.length
      · obtain ⟨b, off, rfl, _, _, hca⟩ := hA (cel_ne (j := k) hlt)
        obtain ⟨x, hx, hx0, hck⟩ := cell_at (j := k) hca hlt
        clear hca
        rcases Int.lt_or_le x 1000000000 with hx1 | hx1
        · go_wp2
          go_round
          case rel =>
            refine ⟨k + 1, hlt, by go_num, ?_⟩
            intro j hj
            rcases Nat.lt_or_ge j k with h | h
            · exact hall.out j h
            · obtain rfl : j = k := by omega
              have := hx.out
              omega
          case measure => simp [intOf]; omega
        · have H := Lib.hid (chk_big hlong (getD_mem hlt) (by have := hx.out; omega))
          go_wp2
          go_ret
          exact ⟨ret_int H.out.symm, rfl⟩
      · obtain rfl : k = l.length := by omega
        have hL := Lib.hid (chk_lo hlong (lo_of_getD hall.out))
        clear hall
        by_cases h0 : 0 < l.length
        · obtain ⟨b, off, rfl, _, _, hca⟩ := hA (cel_ne (j := l.length - 1) (by omega))
          obtain ⟨x, hx, hx0, hck⟩ := cell_at (j := l.length - 1) hca (by omega)
          clear hca
          have hlast := Lib.hid (last_getD h0)
          by_cases hxz : x = 0
          · subst hxz
            have H : Hid (chk l = 3) := by unfold Hid; rw [hL.out, if_pos]; rw [hlast.out]; have := hx.out; omega
            go_wp2
            go_ret
            exact ⟨ret_int H.out.symm, rfl⟩
          · have hb : (x == 0) = false := beq_eq_false_iff_ne.2 hxz
            have H : Hid (chk l = 0) := by unfold Hid; rw [hL.out, if_neg]; rw [hlast.out]; have := hx.out; omega
            clear hxz
            go_wp2
            go_ret
            exact ⟨ret_int H.out.symm, rfl⟩
        · have e : l = [] := List.eq_nil_of_length_eq_zero (by omega)
          subst e
          have H : Hid (chk [] = 0) := by show chk [] = 0; decide
          go_wp2
          go_ret
          exact ⟨ret_int H.out.symm, rfl⟩
end Go.Proofs.YtblpaocignlpkaaGreatDoor
/-
  Contracts of the reference's checks of a number and of a list.
-/
namespace Go.Proofs.YtblpaocignlpkaaGreatDoor
open Go.RowKit
set_option linter.unusedVariables false

set_option maxHeartbeats 400000 in
theorem rparts_l {w : World} {va vb : Value} {a b : List Nat} (ha : IsL .u32 w 0 w.heap.size va a) (hb : IsL .u32 w 0 w.heap.size vb b) : Calls Tryz.prog 143 #[va, vb] w fun e w' => e = .returned (.int .i64 (chkN a b)) ∧ w = w' := by
  have Ha := Lib.hid ha
  have Hb := Lib.hid hb
  obtain ⟨A, c, rfl, _, _, _⟩ := ha
  obtain ⟨B, d, rfl, _, _, _⟩ := hb
  obtain ⟨x, hx⟩ : ∃ x, x = chk a := ⟨_, rfl⟩
  obtain ⟨y, hy⟩ : ∃ y, y = chk b := ⟨_, rfl⟩
  have Hx := Lib.hid hx
  have Hy := Lib.hid hy
  clear hx hy
  by_cases h1 : x = 0
  case neg =>
    have e1 : (x != 0) = true := bne_iff_ne.2 h1
    have Hr : Hid (chkN a b = x) := by unfold Hid chkN; rw [← Hx.out, if_pos h1]
    go_enter Tryz.func143, Tryz.ntmps143
    go_wp2_with fail
    refine (rcheck_l Ha.out).mono ?_
    rw [← Hx.out]
    rintro e w1 ⟨rfl, rfl⟩
    go_wp2_with fail
    go_ret
    exact ⟨ret_int Hr.out.symm, rfl⟩
  have e1 : (x != 0) = false := by rw [h1]; rfl
  have H1 := Lib.hid h1
  clear h1
  by_cases h2 : y = 0
  case neg =>
    have e2 : (y != 0) = true := bne_iff_ne.2 h2
    have Hr : Hid (chkN a b = y) := by unfold Hid chkN; rw [← Hx.out, if_neg (by simp [H1.out]), ← Hy.out, if_pos h2]
    go_enter Tryz.func143, Tryz.ntmps143
    go_wp2_with fail
    refine (rcheck_l Ha.out).mono ?_
    rw [← Hx.out]
    rintro e w1 ⟨rfl, rfl⟩
    go_wp2_with fail
    refine (rcheck_l Hb.out).mono ?_
    rw [← Hy.out]
    rintro e w1 ⟨rfl, rfl⟩
    go_wp2_with fail
    go_ret
    exact ⟨ret_int Hr.out.symm, rfl⟩
  have e2 : (y != 0) = false := by rw [h2]; rfl
  have H2 := Lib.hid h2
  clear h2
  by_cases h3 : b = []
  · have e3 : ((b.length : Int) == 0) = true := by rw [h3]; rfl
    have Hr : Hid (chkN a b = 6) := by unfold Hid chkN; rw [← Hx.out, if_neg (by simp [H1.out]), ← Hy.out, if_neg (by simp [H2.out]), if_pos h3]
    clear h3
    go_enter Tryz.func143, Tryz.ntmps143
    go_wp2_with fail
    refine (rcheck_l Ha.out).mono ?_
    rw [← Hx.out]
    rintro e w1 ⟨rfl, rfl⟩
    go_wp2_with fail
    refine (rcheck_l Hb.out).mono ?_
    rw [← Hy.out]
    rintro e w1 ⟨rfl, rfl⟩
    go_wp2_with fail
    go_ret
    exact ⟨ret_int Hr.out.symm, rfl⟩
  · have e3 : ((b.length : Int) == 0) = false := beq_eq_false_iff_ne.2 (by have := List.length_pos_iff.2 h3; omega)
    have Hr : Hid (chkN a b = 0) := by unfold Hid chkN; rw [← Hx.out, if_neg (by simp [H1.out]), ← Hy.out, if_neg (by simp [H2.out]), if_neg h3]
    clear h3
    go_enter Tryz.func143, Tryz.ntmps143
    go_wp2_with fail
    refine (rcheck_l Ha.out).mono ?_
    rw [← Hx.out]
    rintro e w1 ⟨rfl, rfl⟩
    go_wp2_with fail
    refine (rcheck_l Hb.out).mono ?_
    rw [← Hy.out]
    rintro e w1 ⟨rfl, rfl⟩
    go_wp2_with fail
    go_ret
    exact ⟨ret_int Hr.out.symm, rfl⟩

theorem rcommon_v {w : World} {va vb : Value} {x y : Nat} (ha : IsN w 0 w.heap.size va x) (hb : IsN w 0 w.heap.size vb y) (h1 : (lim x).length ≤ 1024) (h2 : (lim y).length ≤ 1024) :
    Calls Tryz.prog 144 #[va, vb] w fun e w' => (∃ v, e = .returned v ∧ IsN w' 0 w'.heap.size v (Nat.gcd x y)) ∧ Below w.heap.size w w' :=
  rcommon_n ha hb (Nat.le_trans h1 (by omega)) (Nat.le_trans h2 (by omega))

set_option maxRecDepth 100000 in
set_option maxHeartbeats 1000000 in
theorem rcheck_q {w : World} {v : Value} {r : Raw} (h : IsR w (Old w) v r) : Calls Tryz.prog 93 #[v] w fun e w' => e = .returned (.int .i64 (chkQ r)) ∧ Below w.heap.size w w' := by
  obtain ⟨A, cA, B, cB, rfl, h1, h2⟩ := isR_open h
  obtain ⟨w0, hw0, hb0, rA, Hz⟩ := boxes1 w #[.bool r.neg, .slice A r.num.length cA, .slice B r.den.length cB] 31
  have Hn := Lib.hid (IsK.isL (IsK.stb.next h1 hb0) (lo := 0) (hi := w0.heap.size) fun b hb => ⟨Nat.zero_le _, hb⟩)
  have Hd := Lib.hid (IsK.isL (IsK.stb.next h2 hb0) (lo := 0) (hi := w0.heap.size) fun b hb => ⟨Nat.zero_le _, hb⟩)
  obtain ⟨a0, a1, a2⟩ := cells3 rA
  have HA := Lib.hid rA
  have Hb := Lib.hid hb0
  have hl : r.num.length ≤ 9223372036854775807 := by have := Hn.out.length_le; unfold maxLen at this; omega
  clear h h1 h2 rA hb0
  obtain ⟨x, hx⟩ : ∃ x, x = chkN r.num r.den := ⟨_, rfl⟩
  have Hx := Lib.hid hx
  clear hx
  by_cases hx0 : x = 0
  case neg =>
    have e1 : (x != 0) = true := bne_iff_ne.2 hx0
    have Hr : Hid (chkQ r = x) := by rw [Hid, Hx.out]; exact chkQ_parts (by rw [← Hx.out]; exact hx0)
    go_enter Tryz.func93, Tryz.ntmps93
    go_wp2_with fail
    refine (rparts_l Hn.out Hd.out).mono ?_
    rw [← Hx.out]
    rintro e w1 ⟨rfl, rfl⟩
    go_wp2_with fail
    go_ret
    exact ⟨ret_int Hr.out.symm, Hb.out⟩
  have e1 : (x != 0) = false := by rw [hx0]; rfl
  have hok := chkN_ok (num := r.num) (den := r.den) (by rw [← Hx.out]; exact hx0)
  have Hrest := Lib.hid (chkQ_rest (r := r) (by rw [← Hx.out]; exact hx0))
  have Hok := Lib.hid hok
  have HN := Lib.hid (Hn.out.isN hok.1)
  have HD := Lib.hid (Hd.out.isN hok.2.1)
  have en := (chk_ok hok.1).2.2
  have ed := (chk_ok hok.2.1).2.2
  have Hnl := Lib.hid (chk_len hok.1)
  have Hdl := Lib.hid (chk_len hok.2.1)
  clear hok hx0
  clear en ed
  obtain ⟨G, hG⟩ : ∃ G, G = Nat.gcd (val r.num) (val r.den) := ⟨_, rfl⟩
  have H3 : Hid ((r.num = [] ∧ r.neg = true) ∨ G ≠ 1 → chkQ r = 3) := fun h => by rw [Hrest.out, if_pos (by rw [← hG]; exact h)]
  have H0 : Hid (¬ ((r.num = [] ∧ r.neg = true) ∨ G ≠ 1) → chkQ r = 0) := fun h => by rw [Hrest.out, if_neg (by rw [← hG]; exact h)]
  have HG := Lib.hid hG
  clear hG
  obtain ⟨s, hs⟩ : ∃ s, s = r.neg := ⟨_, rfl⟩
  rw [← hs] at a0 hw0 H3 H0 HA ⊢
  clear hs
  by_cases h1 : (lim G).length = 1
  case neg =>
    have e2 : (((lim G).length : Int) != 1) = true := bne_iff_ne.2 (by omega)
    have Hr : Hid (chkQ r = 3) := H3.out (.inr fun h => h1 (by rw [h, lim_one]; rfl))
    clear h1
    go_enter Tryz.func93, Tryz.ntmps93
    go_wp2_with fail
    refine (rparts_l Hn.out Hd.out).mono ?_
    rw [← Hx.out]
    rintro e w1 ⟨rfl, rfl⟩
    go_wp2_with fail
    refine (show Calls Tryz.prog 144 #[.slice A r.num.length cA, .slice B r.den.length cB] w0 (fun e w' => (∃ v, e = .returned v ∧ IsN w' 0 w'.heap.size v G) ∧ Below w0.heap.size w0 w') from by rw [HG.out]; exact rcommon_v HN.out HD.out Hnl.out Hdl.out).mono ?_
    rintro e w1 ⟨⟨v1, rfl, hv⟩, hb⟩
    have Hb1 := Lib.hid (below_step Hb.out hb)
    obtain ⟨b0, b1, b2⟩ := cells3 (HA.out.next hb)
    have HN1 := Lib.hid (IsN.next HN.out hb)
    have HD1 := Lib.hid (IsN.next HD.out hb)
    obtain ⟨P1, k1, rfl, _, _, _⟩ := hv
    clear hb a0 a1 a2
    go_wp2_with fail
    go_ret
    exact ⟨ret_int Hr.out.symm, Hb1.out⟩
  have e2 : (((lim G).length : Int) != 1) = false := by rw [h1]; rfl
  have Hone := Lib.hid h1
  have hlt : 0 < (lim G).length := by omega
  clear h1
  by_cases h2 : G = 1
  case neg =>
    have e3 : ((G : Int) != 1) = true := bne_iff_ne.2 (by omega)
    have Hr : Hid (chkQ r = 3) := H3.out (.inr h2)
    clear h2
    go_enter Tryz.func93, Tryz.ntmps93
    go_wp2_with fail
    refine (rparts_l Hn.out Hd.out).mono ?_
    rw [← Hx.out]
    rintro e w1 ⟨rfl, rfl⟩
    go_wp2_with fail
    refine (show Calls Tryz.prog 144 #[.slice A r.num.length cA, .slice B r.den.length cB] w0 (fun e w' => (∃ v, e = .returned v ∧ IsN w' 0 w'.heap.size v G) ∧ Below w0.heap.size w0 w') from by rw [HG.out]; exact rcommon_v HN.out HD.out Hnl.out Hdl.out).mono ?_
    rintro e w1 ⟨⟨v1, rfl, hv⟩, hb⟩
    have Hb1 := Lib.hid (below_step Hb.out hb)
    have HA1 := Lib.hid (HA.out.next hb)
    obtain ⟨b0, b1, b2⟩ := cells3 HA1.out
    have HN1 := Lib.hid (IsN.next HN.out hb)
    have HD1 := Lib.hid (IsN.next HD.out hb)
    obtain ⟨P1, k1, rfl, _, _, _⟩ := hv
    clear hb a0 a1 a2
    go_wp2_with fail
    refine (show Calls Tryz.prog 144 #[.slice A r.num.length cA, .slice B r.den.length cB] w1 (fun e w' => (∃ v, e = .returned v ∧ IsN w' 0 w'.heap.size v G) ∧ Below w1.heap.size w1 w') from by rw [HG.out]; exact rcommon_v HN1.out HD1.out Hnl.out Hdl.out).mono ?_
    rintro e w2 ⟨⟨v2, rfl, hv⟩, hb⟩
    have Hb2 := Lib.hid (below_step Hb1.out hb)
    obtain ⟨d0, d1, d2⟩ := cells3 (HA1.out.next hb)
    obtain ⟨P2, k2, rfl, _, _, _⟩ := id hv
    obtain ⟨bg, og, rfl, hg, _, _⟩ := one_limb (isN_old hv) Hone.out
    clear hb b0 b1 b2
    go_wp2_with fail
    go_ret
    exact ⟨ret_int Hr.out.symm, Hb2.out⟩
  have e3 : ((G : Int) != 1) = false := by rw [h2]; rfl
  have H2 := Lib.hid h2
  clear h2
  cases s with
  | false =>
    have Hr : Hid (chkQ r = 0) := H0.out (by simp [H2.out])
    go_enter Tryz.func93, Tryz.ntmps93
    go_wp2_with fail
    refine (rparts_l Hn.out Hd.out).mono ?_
    rw [← Hx.out]
    rintro e w1 ⟨rfl, rfl⟩
    go_wp2_with fail
    refine (show Calls Tryz.prog 144 #[.slice A r.num.length cA, .slice B r.den.length cB] w0 (fun e w' => (∃ v, e = .returned v ∧ IsN w' 0 w'.heap.size v G) ∧ Below w0.heap.size w0 w') from by rw [HG.out]; exact rcommon_v HN.out HD.out Hnl.out Hdl.out).mono ?_
    rintro e w1 ⟨⟨v1, rfl, hv⟩, hb⟩
    have Hb1 := Lib.hid (below_step Hb.out hb)
    have HA1 := Lib.hid (HA.out.next hb)
    obtain ⟨b0, b1, b2⟩ := cells3 HA1.out
    have HN1 := Lib.hid (IsN.next HN.out hb)
    have HD1 := Lib.hid (IsN.next HD.out hb)
    obtain ⟨P1, k1, rfl, _, _, _⟩ := hv
    clear hb a0 a1 a2
    go_wp2_with fail
    refine (show Calls Tryz.prog 144 #[.slice A r.num.length cA, .slice B r.den.length cB] w1 (fun e w' => (∃ v, e = .returned v ∧ IsN w' 0 w'.heap.size v G) ∧ Below w1.heap.size w1 w') from by rw [HG.out]; exact rcommon_v HN1.out HD1.out Hnl.out Hdl.out).mono ?_
    rintro e w2 ⟨⟨v2, rfl, hv⟩, hb⟩
    have Hb2 := Lib.hid (below_step Hb1.out hb)
    obtain ⟨d0, d1, d2⟩ := cells3 (HA1.out.next hb)
    obtain ⟨P2, k2, rfl, _, _, _⟩ := id hv
    obtain ⟨bg, og, rfl, hg, _, _⟩ := one_limb (isN_old hv) Hone.out
    clear hb b0 b1 b2
    go_wp2_with fail
    go_ret
    exact ⟨ret_int Hr.out.symm, Hb2.out⟩
  | true =>
    by_cases h0 : r.num = []
    · have e4 : ((r.num.length : Int) == 0) = true := by rw [h0]; rfl
      have Hr : Hid (chkQ r = 3) := H3.out (.inl ⟨h0, rfl⟩)
      clear h0
      go_enter Tryz.func93, Tryz.ntmps93
      go_wp2_with fail
      refine (rparts_l Hn.out Hd.out).mono ?_
      rw [← Hx.out]
      rintro e w1 ⟨rfl, rfl⟩
      go_wp2_with fail
      refine (show Calls Tryz.prog 144 #[.slice A r.num.length cA, .slice B r.den.length cB] w0 (fun e w' => (∃ v, e = .returned v ∧ IsN w' 0 w'.heap.size v G) ∧ Below w0.heap.size w0 w') from by rw [HG.out]; exact rcommon_v HN.out HD.out Hnl.out Hdl.out).mono ?_
      rintro e w1 ⟨⟨v1, rfl, hv⟩, hb⟩
      have Hb1 := Lib.hid (below_step Hb.out hb)
      have HA1 := Lib.hid (HA.out.next hb)
      obtain ⟨b0, b1, b2⟩ := cells3 HA1.out
      have HN1 := Lib.hid (IsN.next HN.out hb)
      have HD1 := Lib.hid (IsN.next HD.out hb)
      obtain ⟨P1, k1, rfl, _, _, _⟩ := hv
      clear hb a0 a1 a2
      go_wp2_with fail
      refine (show Calls Tryz.prog 144 #[.slice A r.num.length cA, .slice B r.den.length cB] w1 (fun e w' => (∃ v, e = .returned v ∧ IsN w' 0 w'.heap.size v G) ∧ Below w1.heap.size w1 w') from by rw [HG.out]; exact rcommon_v HN1.out HD1.out Hnl.out Hdl.out).mono ?_
      rintro e w2 ⟨⟨v2, rfl, hv⟩, hb⟩
      have Hb2 := Lib.hid (below_step Hb1.out hb)
      obtain ⟨d0, d1, d2⟩ := cells3 (HA1.out.next hb)
      obtain ⟨P2, k2, rfl, _, _, _⟩ := id hv
      obtain ⟨bg, og, rfl, hg, _, _⟩ := one_limb (isN_old hv) Hone.out
      clear hb b0 b1 b2
      go_wp2_with fail
      go_ret
      exact ⟨ret_int Hr.out.symm, Hb2.out⟩
    · have e4 : ((r.num.length : Int) == 0) = false := beq_eq_false_iff_ne.2 (by have := List.length_pos_iff.2 h0; omega)
      have Hr : Hid (chkQ r = 0) := H0.out (by simp [H2.out, h0])
      clear h0
      go_enter Tryz.func93, Tryz.ntmps93
      go_wp2_with fail
      refine (rparts_l Hn.out Hd.out).mono ?_
      rw [← Hx.out]
      rintro e w1 ⟨rfl, rfl⟩
      go_wp2_with fail
      refine (show Calls Tryz.prog 144 #[.slice A r.num.length cA, .slice B r.den.length cB] w0 (fun e w' => (∃ v, e = .returned v ∧ IsN w' 0 w'.heap.size v G) ∧ Below w0.heap.size w0 w') from by rw [HG.out]; exact rcommon_v HN.out HD.out Hnl.out Hdl.out).mono ?_
      rintro e w1 ⟨⟨v1, rfl, hv⟩, hb⟩
      have Hb1 := Lib.hid (below_step Hb.out hb)
      have HA1 := Lib.hid (HA.out.next hb)
      obtain ⟨b0, b1, b2⟩ := cells3 HA1.out
      have HN1 := Lib.hid (IsN.next HN.out hb)
      have HD1 := Lib.hid (IsN.next HD.out hb)
      obtain ⟨P1, k1, rfl, _, _, _⟩ := hv
      clear hb a0 a1 a2
      go_wp2_with fail
      refine (show Calls Tryz.prog 144 #[.slice A r.num.length cA, .slice B r.den.length cB] w1 (fun e w' => (∃ v, e = .returned v ∧ IsN w' 0 w'.heap.size v G) ∧ Below w1.heap.size w1 w') from by rw [HG.out]; exact rcommon_v HN1.out HD1.out Hnl.out Hdl.out).mono ?_
      rintro e w2 ⟨⟨v2, rfl, hv⟩, hb⟩
      have Hb2 := Lib.hid (below_step Hb1.out hb)
      obtain ⟨d0, d1, d2⟩ := cells3 (HA1.out.next hb)
      obtain ⟨P2, k2, rfl, _, _, _⟩ := id hv
      obtain ⟨bg, og, rfl, hg, _, _⟩ := one_limb (isN_old hv) Hone.out
      clear hb b0 b1 b2
      go_wp2_with fail
      go_ret
      exact ⟨ret_int Hr.out.symm, Hb2.out⟩

end Go.Proofs.YtblpaocignlpkaaGreatDoor
/-
  The contract of the reference's List and Check of a list.
-/
namespace Go.Proofs.YtblpaocignlpkaaGreatDoor
open Go.RowKit
set_option linter.unusedVariables false

theorem rgetD_map {l : List Raw} {j : Nat} {r : Raw} (h : l[j]? = some r) : (l.map chkQ).getD j 0 = chkQ r := by
  rw [List.getD_eq_getElem?_getD, List.getElem?_map, h]; rfl
theorem rsome_at {α : Type} {l : List α} {j : Nat} (h : j < l.length) : ∃ x, l[j]? = some x := ⟨_, List.getElem?_eq_getElem h⟩

set_option maxRecDepth 100000 in
set_option maxHeartbeats 1000000 in
theorem rlist_l {w : World} {v : Value} {l : List Raw} (h : IsV w (Old w) v l) :
    Calls Tryz.prog 87 #[v] w fun e w' => e = .returned (.int .i64 (chkL l)) ∧ Below w.heap.size w w' := by
  have H := Lib.hid h
  obtain ⟨A, c, rfl, hl⟩ := isV_len h
  clear h
  go_enter Tryz.func87, Tryz.ntmps87
  go_wp2_with fail
  go_loopw [3] (fun i wr => ∃ k : Nat, k ≤ l.length ∧ i = .int .i64 (k : Int) ∧ Below w.heap.size w wr ∧ Hid (∀ j, j < k → (l.map chkQ).getD j 0 = 0)) (fun i _ => l.length - (intOf i).toNat)
  case atStart => exact ⟨0, Nat.zero_le _, rfl, Below.refl _ _, fun j hj => by omega⟩
  case round =>
    obtain ⟨k, hk, rfl, hbw, hrel⟩ := hrel
    have Hbw := Lib.hid hbw
    have Hrel := Lib.hid hrel.out
    clear hrel
    rcases Nat.lt_or_ge k l.length with hlt | hge
    · obtain ⟨r, hr⟩ := rsome_at hlt
      obtain ⟨b, off, P, kP, Q, kQ, rfl, hSb, hel, c0, c1, c2⟩ := isV_get (IsV.stb.next H.out hbw) hr
      have Hel := Lib.hid hel
      have Hrr := Lib.hid hr
      have cr := ratCells
      obtain ⟨x, hx⟩ : ∃ x, x = chkQ r := ⟨_, rfl⟩
      have Hx := Lib.hid hx
      clear hel hr hbw hx
      by_cases hx0 : x = 0
      · have e0 : (x != 0) = false := by rw [hx0]; rfl
        have Hx0 := Lib.hid hx0
        clear hx0
        go_wp2_with fail
        refine (rcheck_q Hel.out).mono ?_
        rw [← Hx.out]
        rintro e w1 ⟨rfl, hb⟩
        have Hb1 := Lib.hid (below_step Hbw.out hb)
        clear hb
        go_wp2_with fail
        go_roundw
        case rel =>
          refine ⟨k + 1, by omega, by go_num, Hb1.out, fun j hj => ?_⟩
          rcases Nat.lt_or_ge j k with h | h
          · exact Hrel.out j h
          · obtain rfl : j = k := by omega
            rw [rgetD_map Hrr.out, ← Hx.out, Hx0.out]
        case measure => simp [intOf]; omega
      · have e0 : (x != 0) = true := bne_iff_ne.2 hx0
        have Hfin : Hid (chkL l = x) := by
          rw [Hid]
          exact fstE_at Hrel.out (by rw [List.getElem?_map, Hrr.out, Hx.out]; rfl) hx0
        clear hx0
        go_wp2_with fail
        refine (rcheck_q Hel.out).mono ?_
        rw [← Hx.out]
        rintro e w1 ⟨rfl, hb⟩
        have Hb1 := Lib.hid (below_step Hbw.out hb)
        clear hb
        go_wp2_with fail
        go_ret
        exact ⟨ret_int Hfin.out.symm, Hb1.out⟩
    · obtain rfl : k = l.length := by omega
      have Hfin : Hid (chkL l = 0) := by
        rw [Hid]
        exact fstE_all (by rw [List.length_map]; exact Hrel.out)
      clear hbw
      go_wp2_with fail
      go_ret
      exact ⟨ret_int Hfin.out.symm, Hbw.out⟩

theorem rvcheck_l {w : World} {v : Value} {l : List Raw} (h : IsV w (Old w) v l) :
    Calls Tryz.prog 34 #[v] w fun e w' => e = .returned (.int .i64 (chkV l)) ∧ Below w.heap.size w w' := by
  have H := Lib.hid h
  obtain ⟨A, c, rfl, hl⟩ := isV_len h
  clear h
  by_cases h40 : 40 < l.length
  · have Hr : Hid (chkV l = 4) := by unfold Hid chkV; rw [if_pos h40]
    go_enter Tryz.func34, Tryz.ntmps34
    go_wp2_with fail
    go_ret
    exact ⟨ret_int Hr.out.symm, Below.refl _ _⟩
  · have Hr : Hid (chkV l = chkL l) := by unfold Hid chkV; rw [if_neg h40]
    have h40' : l.length ≤ 40 := by omega
    clear h40
    go_enter Tryz.func34, Tryz.ntmps34
    go_wp2_with fail
    refine (rlist_l H.out).mono ?_
    rintro e w1 ⟨rfl, hb⟩
    have Hb := Lib.hid hb
    clear hb
    go_wp2_with fail
    go_ret
    exact ⟨ret_int Hr.out.symm, Hb.out⟩
end Go.Proofs.YtblpaocignlpkaaGreatDoor
