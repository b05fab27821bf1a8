/-
  Contracts of the reference's functions on rational numbers: Lowest, Minus, Plus, Times, Order, Zero.
-/
import Derived.Test.YtblpaocignlpkaaDoorVkrn06
import Derived.Test.YtblpaocignlpkaaDoorProofVectorKernels02
import Derived.Test.YtblpaocignlpkaaDoorProofVectorKernels03
namespace Go.Proofs.YtblpaocignlpkaaDoor
open Go.RowKit
set_option linter.unusedVariables false
theorem lit_one (w : World) : NumS (w.alloc (.cells #[.int .u32 1] 94)) (New w.heap.size (w.alloc (.cells #[.int .u32 1] 94))) (.slice (some ⟨w.heap.size, 0, none⟩) 1 1) 1 := by
  have h := isL_new .u32 w 94 [1] (by unfold maxLen; decide)
  unfold NumS
  rw [zdb]
  exact IsL.isK h fun b h1 h2 => ⟨h1, by rw [World.size_alloc]; exact h2⟩
set_option maxHeartbeats 1000000 in
theorem lowest_q {w : World} {va vb : Value} {n d : Nat} {neg : Bool} {q : Rat} (ha : IsN w 0 w.heap.size va n) (hb : IsN w 0 w.heap.size vb d) (hd0 : d ≠ 0) (hn : (lim n).length ≤ 2000000) (hd : (lim d).length ≤ 2000000) (hq : q = mkRat (sg neg n) d) : Calls Tryd.prog 80 #[.bool neg, va, vb] w (RetQ w q) := by
  have Ha := Lib.hid ha
  have Hb := Lib.hid hb
  have Hn := Lib.hid hn
  have Hd := Lib.hid hd
  obtain ⟨A, cA, rfl, _, _, _⟩ := ha
  obtain ⟨B, cB, rfl, _, _, _⟩ := hb
  clear hn hd
  obtain ⟨w0, hw0, hb0, rZ, Hz⟩ := zch w #[.bool false, .slice none 0 0, .slice none 0 0] 50
  have Z_0 := Lib.hid (rZ)
  have bw_0 := Lib.hid (hb0)
  have sz_0 : Hid (w.heap.size + 1 ≤ w0.heap.size) := Lib.hid (Nat.le_of_eq Hz.out.symm)
  clear rZ hb0
  obtain ⟨cZ0_1, cZ1_1, cZ2_1⟩ := zad Z_0.out
  obtain ⟨fZ0_1, fZ1_1, fZ2_1⟩ := zaq Z_0.out
  have A_0 := Lib.hid (IsN.next Ha.out bw_0.out)
  have D_0 := Lib.hid (IsN.next Hb.out bw_0.out)
  by_cases h0 : n = 0
  · have e0 := len_zero h0
    have Hq : Hid (q = 0) := by rw [Hid, hq, h0, sg_zero, Rat.zero_mkRat]
    clear h0 hq
    obtain ⟨d0, d1, d2⟩ := zad (Row.alloc Z_0.out (.cells #[.int .u32 1] 94))
    obtain ⟨d3, d4, d5⟩ := zaq (Row.alloc Z_0.out (.cells #[.int .u32 1] 94))
    go_enter Tryd.func80, Tryd.ntmps80
    go_wp2_with fail
    rw [Hq.out]
    refine zbb Tryd.results80 rfl rfl (Row.put3 (Row.alloc Z_0.out _) _ _ _) (retQ (n := 0) (d := 1) (by rw [raw_zero, zbd, zdb]) (below_stepA bw_0.out _) (Nat.le_refl _) (numS_zero (S := New (w.heap.size + 1) _)) (lit_one w0) (by omega) (by have := Hz.out; omega))
  · have e0 := zdz h0
    obtain ⟨G, hG⟩ : ∃ G, G = Nat.gcd n d := ⟨_, rfl⟩
    have Hr : Hid (raw q = ⟨neg, lim (n / G), lim (d / G)⟩) := by rw [Hid, hq, hG]; exact raw_ratio h0 hd0
    have HGp : Hid (0 < G) := by rw [Hid, hG]; exact Nat.gcd_pos_of_pos_right _ (by omega)
    have HG := Lib.hid hG
    clear h0 hG hq
    go_enter Tryd.func80, Tryd.ntmps80
    go_wp2_with fail
    clear hw0
    refine ((show Calls Tryd.prog 113 #[.slice A (lim n).length cA, .slice B (lim d).length cB] w0 (fun e w' => (∃ v, e = .returned v ∧ IsN w' 0 w'.heap.size v G) ∧ Below w0.heap.size w0 w') from by rw [HG.out]; exact rcommon_n A_0.out D_0.out (Nat.le_trans Hn.out (by omega)) (Nat.le_trans Hd.out (by omega)))).mono ?_
    rintro e w1 ⟨⟨v1, rfl, hv⟩, hb⟩
    have newG := Lib.hid (hv)
    have Z_1 := Lib.hid (Row.next Z_0.out (hb))
    have bw_1 := Lib.hid (zaa bw_0.out (hb))
    have sz_1 := Lib.hid (zai sz_0.out (hb))
    have A_1 := Lib.hid (IsN.next A_0.out (hb))
    have D_1 := Lib.hid (IsN.next D_0.out (hb))
    clear Z_0 bw_0 sz_0 A_0 D_0
    have G_0 := newG
    clear newG
    obtain ⟨P1, k1, rfl, _, _, _⟩ := id hv
    clear cZ0_1 cZ1_1 cZ2_1 fZ0_1 fZ1_1 fZ2_1
    obtain ⟨cZ0_2, cZ1_2, cZ2_2⟩ := zad Z_1.out
    obtain ⟨fZ0_2, fZ1_2, fZ2_2⟩ := zaq Z_1.out
    go_wp2_with fail
    refine (rover_f A_1.out G_0.out HGp.out (Nat.le_trans Hn.out (by omega))).mono ?_
    rintro e w2 ⟨⟨v2, v2r, rfl, hv2, _⟩, hb⟩
    have newN := Lib.hid (zba hv2 sz_1.out)
    have Z_2 := Lib.hid (Row.next Z_1.out (hb))
    have bw_2 := Lib.hid (zaa bw_1.out (hb))
    have sz_2 := Lib.hid (zai sz_1.out (hb))
    have A_2 := Lib.hid (IsN.next A_1.out (hb))
    have D_2 := Lib.hid (IsN.next D_1.out (hb))
    have G_1 := Lib.hid (IsN.next G_0.out (hb))
    clear Z_1 bw_1 sz_1 A_1 D_1 G_0
    have N_0 := newN
    clear newN
    obtain ⟨P2, k2, rfl, _, _, _⟩ := id hv2
    clear cZ0_2 cZ1_2 cZ2_2 fZ0_2 fZ1_2 fZ2_2
    obtain ⟨cZ0_3, cZ1_3, cZ2_3⟩ := zad Z_2.out
    obtain ⟨fZ0_3, fZ1_3, fZ2_3⟩ := zaq Z_2.out
    go_wp2_with fail
    refine (rover_f D_2.out G_1.out HGp.out (Nat.le_trans Hd.out (by omega))).mono ?_
    rintro e w3 ⟨⟨v3, v3r, rfl, hv3, _⟩, hb⟩
    have newE := Lib.hid (zba hv3 sz_2.out)
    have Z_3 := Lib.hid (Row.next Z_2.out (hb))
    have bw_3 := Lib.hid (zaa bw_2.out (hb))
    have sz_3 := Lib.hid (zai sz_2.out (hb))
    have A_3 := Lib.hid (IsN.next A_2.out (hb))
    have D_3 := Lib.hid (IsN.next D_2.out (hb))
    have G_2 := Lib.hid (IsN.next G_1.out (hb))
    have N_1 := Lib.hid (IsK.stb.fresh N_0.out (hb))
    clear Z_2 bw_2 sz_2 A_2 D_2 G_1 N_0
    have E_0 := newE
    clear newE
    obtain ⟨P3, k3, rfl, _, _, _⟩ := id hv3
    clear cZ0_3 cZ1_3 cZ2_3 fZ0_3 fZ1_3 fZ2_3
    obtain ⟨cZ0_4, cZ1_4, cZ2_4⟩ := zad Z_3.out
    obtain ⟨fZ0_4, fZ1_4, fZ2_4⟩ := zaq Z_3.out
    go_wp2_with fail
    refine zbb Tryd.results80 rfl rfl (Row.put3 Z_3.out _ _ _) (retQ Hr.out bw_3.out (by omega) N_1.out E_0.out (by omega) (by omega))
theorem same_set {w : World} {g o : Nat} {S T : Nat → Prop} {a : Value} (h : ∀ x, S x → x ≠ g ∧ T x) : Same S T w (w.setCell ⟨g, o, none⟩ a) := fun x hx => ⟨(h x hx).2, fun o' => World.cell?_setCell_other _ _ _ _ (fun e => (h x hx).1 (by cases e; rfl))⟩
set_option maxRecDepth 100000 in
set_option maxHeartbeats 400000 in
theorem rneg_s {w : World} {v : Value} {q p : Rat} {S : Nat → Prop} (h : IsQ w S v q) (hS : ∀ b, S b → b < w.heap.size) (hp : p = -q) : Calls Tryd.prog 30 #[v] w (RetS S w p) := by
  subst hp
  have hl : (lim q.num.natAbs).length ≤ 9223372036854775807 := len_max (zak (IsK.stb.to (zam h).choose_spec.choose_spec.choose_spec.choose_spec.choose_spec.2.2.1.out (zaz hS)))
  obtain ⟨neg, A, cA, B, cB, rfl, Hneg, Hn, Hd⟩ := zam h
  have hr := raw_neg_q q
  rw [show raw q = ⟨neg, lim q.num.natAbs, lim q.den⟩ from by rw [Hneg.out]; rfl] at hr
  clear h
  obtain ⟨w0, hw0, hb0, rA, rZ, Hz⟩ := zep w #[.bool neg, .slice A (lim q.num.natAbs).length cA, .slice B (lim q.den).length cB] #[.bool false, .slice none 0 0, .slice none 0 0] 50 50
  have n1 := IsK.stb.to Hn.out (zdo (S := S) hb0 hS)
  have d1 := IsK.stb.to Hd.out (zdo (S := S) hb0 hS)
  obtain ⟨a0, a1, a2⟩ := zad rA
  obtain ⟨fa0, fa1, fa2⟩ := zaq rA
  obtain ⟨z0, z1, z2⟩ := zad rZ
  obtain ⟨f0, f1, f2⟩ := zaq rZ
  have Rz := Lib.hid rZ
  have Hb := Lib.hid hb0
  have HN := Lib.hid n1
  have HD := Lib.hid d1
  clear rA rZ hb0 n1 d1
  have hfin : ∀ s : Bool, raw (-q) = ⟨s, lim q.num.natAbs, lim q.den⟩ → RetS S w (-q) (.returned (.agg #[.bool s, .slice A (lim q.num.natAbs).length cA, .slice B (lim q.den).length cB])) (put3 (w0.setCell ⟨w.heap.size, 0, none⟩ (.bool s)) (w.heap.size + 1) (.bool s) (.slice A (lim q.num.natAbs).length cA) (.slice B (lim q.den).length cB)) := fun s hs => by
    have k1 := IsK.stb.to HN.out (same_set (g := w.heap.size) (o := 0) (a := .bool s) (T := S) fun b hb => ⟨by have := hS b hb; omega, hb⟩)
    have k2 := IsK.stb.to HD.out (same_set (g := w.heap.size) (o := 0) (a := .bool s) (T := S) fun b hb => ⟨by have := hS b hb; omega, hb⟩)
    exact ⟨⟨_, rfl, isQ_mk hs (IsK.stb.to k1 (zbz fun b hb => ⟨by have := hS b hb; omega, hb⟩)) (IsK.stb.to k2 (zbz fun b hb => ⟨by have := hS b hb; omega, hb⟩))⟩, zci (Hb.out.setCell (p := ⟨w.heap.size, 0, none⟩) (Nat.le_refl _) _) (by omega) _ _ _⟩
  have Hfin := Lib.hid hfin
  have Hr := Lib.hid hr
  have HS := Lib.hid hS
  clear hfin hr hS
  have hne : w.heap.size ≠ w.heap.size + 1 := by omega
  cases neg with
  | true =>
    go_enter Tryd.func30, Tryd.ntmps30
    go_wp2_with fail
    refine zbb Tryd.results30 rfl rfl (Row.put3 (Row.far Rz.out (p := ⟨w.heap.size, 0, none⟩) (by show w.heap.size + 1 ≠ w.heap.size; omega) _) _ _ _) (Hfin.out false (by rw [Hr.out]; rfl))
  | false =>
    go_enter Tryd.func30, Tryd.ntmps30
    go_wp2_with fail
    refine zbb Tryd.results30 rfl rfl (Row.put3 (Row.far Rz.out (p := ⟨w.heap.size, 0, none⟩) (by show w.heap.size + 1 ≠ w.heap.size; omega) _) _ _ _) (Hfin.out _ ?_)
    rw [Hr.out]
    congr 1
    rw [Bool.eq_iff_iff]
    have h1 := @num_zero_iff q
    have h2 := @lim_nil_iff q.num.natAbs
    simp
    rw [← h1, ← h2]
    omega
set_option maxRecDepth 100000 in
set_option maxHeartbeats 1000000 in
theorem rmulq {w : World} {va vb : Value} {qa qb qc : Rat} (ha : IsQ w (Old w) va qa) (hb : IsQ w (Old w) vb qb) (hsa : Sz qa 100000) (hsb : Sz qb 100000) (hc : qc = qa * qb) : Calls Tryd.prog 32 #[va, vb] w (RetQ w qc) := by
  have HQa := Lib.hid ha
  obtain ⟨nega, Aa, cAa, Ba, cBa, rfl, Hnega, Hna, Hda⟩ := zam ha
  have HQb := Lib.hid hb
  obtain ⟨negb, Ab, cAb, Bb, cBb, rfl, Hnegb, Hnb, Hdb⟩ := zam hb
  obtain ⟨ng, hng⟩ : ∃ ng : Bool, (!(nega == negb)) = ng := ⟨_, rfl⟩
  obtain ⟨x, hx⟩ : ∃ x, x = qa.num.natAbs * qb.num.natAbs := ⟨_, rfl⟩
  obtain ⟨d, hd⟩ : ∃ d, d = qa.den * qb.den := ⟨_, rfl⟩
  have Hq : Hid (qc = mkRat (sg ng x) d) := by rw [Hid, hc, ← hng, hx, hd]; exact (times_over Hnega.out Hnegb.out).symm
  have Hx := Lib.hid hx
  have Hdd := Lib.hid hd
  have Hd0 : Hid (d ≠ 0) := by rw [Hid, hd]; exact Nat.mul_ne_zero qa.den_nz qb.den_nz
  have Lx : Hid ((lim x).length ≤ 2000000) := by rw [Hid, hx]; exact Nat.le_trans (zet hsa.1 hsb.1) (by omega)
  have Ld : Hid ((lim d).length ≤ 2000000) := by rw [Hid, hd]; exact Nat.le_trans (zet hsa.2 hsb.2) (by omega)
  have Hsa := Lib.hid hsa
  have Hsb := Lib.hid hsb
  clear ha hb hc hsa hsb hx hd
  obtain ⟨w0, hw0, hb0, ra, rb, rZ, Hz⟩ := zfp w #[.bool nega, .slice Aa (lim qa.num.natAbs).length cAa, .slice Ba (lim qa.den).length cBa] #[.bool negb, .slice Ab (lim qb.num.natAbs).length cAb, .slice Bb (lim qb.den).length cBb] #[.bool false, .slice none 0 0, .slice none 0 0] 50 50 50
  have Qa_0 := Lib.hid (IsQ.stb.next HQa.out hb0)
  have Ra_0 := Lib.hid (ra)
  have Qb_0 := Lib.hid (IsQ.stb.next HQb.out hb0)
  have Rb_0 := Lib.hid (rb)
  have Z_0 := Lib.hid (rZ)
  have bw_0 := Lib.hid (hb0)
  have sz_0 : Hid (w.heap.size + 3 ≤ w0.heap.size) := Lib.hid (Nat.le_of_eq Hz.out.symm)
  clear ra rb rZ hb0
  obtain ⟨cRa0_1, cRa1_1, cRa2_1⟩ := zad Ra_0.out
  obtain ⟨cRb0_2, cRb1_2, cRb2_2⟩ := zad Rb_0.out
  obtain ⟨cZ0_3, cZ1_3, cZ2_3⟩ := zad Z_0.out
  obtain ⟨fZ0_3, fZ1_3, fZ2_3⟩ := zaq Z_0.out
  go_enter Tryd.func32, Tryd.ntmps32
  go_wp2_with fail
  clear hw0
  have Qa_1 := Lib.hid (IsQ.stb.next Qa_0.out (zac _))
  have Ra_1 := Lib.hid (Row.next Ra_0.out (zac _))
  have Qb_1 := Lib.hid (IsQ.stb.next Qb_0.out (zac _))
  have Rb_1 := Lib.hid (Row.next Rb_0.out (zac _))
  have Z_1 := Lib.hid (Row.next Z_0.out (zac _))
  have bw_1 := Lib.hid (zaa bw_0.out (zac _))
  have sz_1 := Lib.hid (zai sz_0.out (zac _))
  clear Qa_0 Ra_0 Qb_0 Rb_0 Z_0 bw_0 sz_0
  go_region_held3 (fun w' => w'.cell? ⟨w.heap.size, 0, none⟩ = some (.bool nega) ∧ w'.cell? ⟨w.heap.size, 1, none⟩ = some (.slice Aa (lim qa.num.natAbs).length cAa) ∧ w'.cell? ⟨w.heap.size, 2, none⟩ = some (.slice Ba (lim qa.den).length cBa) ∧ w'.cell? ⟨w.heap.size + 1, 0, none⟩ = some (.bool negb) ∧ w'.cell? ⟨w.heap.size + 1, 1, none⟩ = some (.slice Ab (lim qb.num.natAbs).length cAb) ∧ w'.cell? ⟨w.heap.size + 1, 2, none⟩ = some (.slice Bb (lim qb.den).length cBb))
    (first
      | exact ⟨cRa0_1, cRa1_1, cRa2_1, cRb0_2, cRb1_2, cRb2_2⟩
      | exact ⟨cRa0_4, cRa1_4, cRa2_4, cRb0_5, cRb1_5, cRb2_5⟩
      | exact ⟨cRa0_7, cRa1_7, cRa2_7, cRb0_8, cRb1_8, cRb2_8⟩
      | exact ⟨cRa0_10, cRa1_10, cRa2_10, cRb0_11, cRb1_11, cRb2_11⟩
      | exact ⟨zap cRa0_10 (by omega), zap cRa1_10 (by omega), zap cRa2_10 (by omega), zap cRb0_11 (by omega), zap cRb1_11 (by omega), zap cRb2_11 (by omega)⟩)
    (first
      | (go_at_call 79; have hc := (show Calls Tryd.prog 79 #[.slice Aa (lim qa.num.natAbs).length cAa, .slice Ab (lim qb.num.natAbs).length cAb] (World.drew w0) (fun e w' => (∃ v, e = .returned v ∧ IsN w' (World.heap (World.drew w0)).size w'.heap.size v x) ∧ Below (World.heap (World.drew w0)).size (World.drew w0) w') from by rw [Hx.out]; exact zel (zak (zcv Qa_1.out)) (zak (zcv Qb_1.out)) (Nat.le_refl _) (Nat.le_refl _) (Nat.le_trans Hsa.out.1 (by omega)) (Nat.le_trans Hsb.out.1 (by omega))); (with_reducible refine hc.mono ?_); clear hc; rintro e w1 ⟨⟨v1, rfl, hv⟩, hb⟩; have newX := Lib.hid (zba hv sz_1.out); have Qa_2 := Lib.hid (IsQ.stb.next Qa_1.out (hb)); have Ra_2 := Lib.hid (Row.next Ra_1.out (hb)); have Qb_2 := Lib.hid (IsQ.stb.next Qb_1.out (hb)); have Rb_2 := Lib.hid (Row.next Rb_1.out (hb)); have Z_2 := Lib.hid (Row.next Z_1.out (hb)); have bw_2 := Lib.hid (zaa bw_1.out (hb)); have sz_2 := Lib.hid (zai sz_1.out (hb)); clear Qa_1 Ra_1 Qb_1 Rb_1 Z_1 bw_1 sz_1; have X_0 := newX; clear newX; obtain ⟨P1, k1, rfl, _, _, _⟩ := id hv; clear cRa0_1 cRa1_1 cRa2_1 cRb0_2 cRb1_2 cRb2_2 cZ0_3 cZ1_3 cZ2_3 fZ0_3 fZ1_3 fZ2_3; obtain ⟨cRa0_4, cRa1_4, cRa2_4⟩ := zad Ra_2.out; obtain ⟨cRb0_5, cRb1_5, cRb2_5⟩ := zad Rb_2.out; obtain ⟨cZ0_6, cZ1_6, cZ2_6⟩ := zad Z_2.out; obtain ⟨fZ0_6, fZ1_6, fZ2_6⟩ := zaq Z_2.out)
      | (go_at_call 79; have hc := (show Calls Tryd.prog 79 #[.slice Ba (lim qa.den).length cBa, .slice Bb (lim qb.den).length cBb] w1 (fun e w' => (∃ v, e = .returned v ∧ IsN w' (World.heap w1).size w'.heap.size v d) ∧ Below (World.heap w1).size w1 w') from by rw [Hdd.out]; exact zel (zak (zck Qa_2.out)) (zak (zck Qb_2.out)) (Nat.le_refl _) (Nat.le_refl _) (Nat.le_trans Hsa.out.2 (by omega)) (Nat.le_trans Hsb.out.2 (by omega))); (with_reducible refine hc.mono ?_); clear hc; rintro e w2 ⟨⟨v2, rfl, hv2⟩, hb⟩; have newD := Lib.hid (zba hv2 sz_2.out); have Qa_3 := Lib.hid (IsQ.stb.next Qa_2.out (hb)); have Ra_3 := Lib.hid (Row.next Ra_2.out (hb)); have Qb_3 := Lib.hid (IsQ.stb.next Qb_2.out (hb)); have Rb_3 := Lib.hid (Row.next Rb_2.out (hb)); have Z_3 := Lib.hid (Row.next Z_2.out (hb)); have bw_3 := Lib.hid (zaa bw_2.out (hb)); have sz_3 := Lib.hid (zai sz_2.out (hb)); have X_1 := Lib.hid (IsK.stb.fresh X_0.out (hb)); clear Qa_2 Ra_2 Qb_2 Rb_2 Z_2 bw_2 sz_2 X_0; have D_0 := newD; clear newD; obtain ⟨P2, k2, rfl, _, _, _⟩ := id hv2; clear cRa0_4 cRa1_4 cRa2_4 cRb0_5 cRb1_5 cRb2_5 cZ0_6 cZ1_6 cZ2_6 fZ0_6 fZ1_6 fZ2_6; obtain ⟨cRa0_7, cRa1_7, cRa2_7⟩ := zad Ra_3.out; obtain ⟨cRb0_8, cRb1_8, cRb2_8⟩ := zad Rb_3.out; obtain ⟨cZ0_9, cZ1_9, cZ2_9⟩ := zad Z_3.out; obtain ⟨fZ0_9, fZ1_9, fZ2_9⟩ := zaq Z_3.out)
      | (go_at_call 80; have hc := lowest_q (neg := ng) (zak (IsK.stb.old X_1.out)) (zak (IsK.stb.old D_0.out)) Hd0.out Lx.out Ld.out Hq.out; (with_reducible refine hc.mono ?_); clear hc; rintro e w3 ⟨⟨v3, rfl, hv3⟩, hb⟩; have newV := Lib.hid (IsQ.stb.le hv3 sz_3.out); have Qa_4 := Lib.hid (IsQ.stb.next Qa_3.out (hb)); have Ra_4 := Lib.hid (Row.next Ra_3.out (hb)); have Qb_4 := Lib.hid (IsQ.stb.next Qb_3.out (hb)); have Rb_4 := Lib.hid (Row.next Rb_3.out (hb)); have Z_4 := Lib.hid (Row.next Z_3.out (hb)); have bw_4 := Lib.hid (zaa bw_3.out (hb)); have sz_4 := Lib.hid (zai sz_3.out (hb)); have X_2 := Lib.hid (IsK.stb.fresh X_1.out (hb)); have D_1 := Lib.hid (IsK.stb.fresh D_0.out (hb)); clear Qa_3 Ra_3 Qb_3 Rb_3 Z_3 bw_3 sz_3 X_1 D_0; have V_0 := newV; clear newV; obtain ⟨s3, P3, k3, O3, l3, rfl, _, _, _⟩ := zam hv3; clear cRa0_7 cRa1_7 cRa2_7 cRb0_8 cRb1_8 cRb2_8 cZ0_9 cZ1_9 cZ2_9 fZ0_9 fZ1_9 fZ2_9; obtain ⟨cRa0_10, cRa1_10, cRa2_10⟩ := zad Ra_4.out; obtain ⟨cRb0_11, cRb1_11, cRb2_11⟩ := zad Rb_4.out; obtain ⟨cZ0_12, cZ1_12, cZ2_12⟩ := zad Z_4.out; obtain ⟨fZ0_12, fZ1_12, fZ2_12⟩ := zaq Z_4.out))
  go_wp2_with fail
  refine zbb Tryd.results32 rfl rfl (Row.put3 Z_4.out _ _ _) (zew V_0.out bw_4.out (by omega) (by omega))
set_option maxRecDepth 100000 in
set_option maxHeartbeats 2000000 in
theorem raddq {w : World} {va vb : Value} {qa qb qc : Rat} (ha : IsQ w (Old w) va qa) (hb : IsQ w (Old w) vb qb) (hsa : Sz qa 100000) (hsb : Sz qb 100000) (hc : qc = qa + qb) : Calls Tryd.prog 31 #[va, vb] w (RetQ w qc) := by
  have HQa := Lib.hid ha
  obtain ⟨nega, Aa, cAa, Ba, cBa, rfl, Hnega, Hna, Hda⟩ := zam ha
  have HQb := Lib.hid hb
  obtain ⟨negb, Ab, cAb, Bb, cBb, rfl, Hnegb, Hnb, Hdb⟩ := zam hb
  obtain ⟨x, hx⟩ : ∃ x, x = qa.num.natAbs * qb.den := ⟨_, rfl⟩
  obtain ⟨y, hy⟩ : ∃ y, y = qb.num.natAbs * qa.den := ⟨_, rfl⟩
  obtain ⟨d, hd⟩ : ∃ d, d = qa.den * qb.den := ⟨_, rfl⟩
  have Hov : Hid (∀ (neg : Bool) (n : Nat), sg neg n = sg nega x + sg negb y → qc = mkRat (sg neg n) d) := fun neg n h => by rw [hc, hd]; exact (plus_over Hnega.out Hnegb.out (by rw [h, hx, hy])).symm
  have Hx := Lib.hid hx
  have Hy := Lib.hid hy
  have Hdd := Lib.hid hd
  have Hd0 : Hid (d ≠ 0) := by rw [Hid, hd]; exact Nat.mul_ne_zero qa.den_nz qb.den_nz
  have Lx : Hid ((lim x).length ≤ 200000) := by rw [Hid, hx]; exact zet hsa.1 hsb.2
  have Ly : Hid ((lim y).length ≤ 200000) := by rw [Hid, hy]; exact zet hsb.1 hsa.2
  have Ld : Hid ((lim d).length ≤ 2000000) := by rw [Hid, hd]; exact Nat.le_trans (zet hsa.2 hsb.2) (by omega)
  have Hsa := Lib.hid hsa
  have Hsb := Lib.hid hsb
  clear ha hb hc hsa hsb hx hy hd
  obtain ⟨w0, hw0, hb0, ra, rb, rZ, Hz⟩ := zfp w #[.bool nega, .slice Aa (lim qa.num.natAbs).length cAa, .slice Ba (lim qa.den).length cBa] #[.bool negb, .slice Ab (lim qb.num.natAbs).length cAb, .slice Bb (lim qb.den).length cBb] #[.bool false, .slice none 0 0, .slice none 0 0] 50 50 50
  have Qa_0 := Lib.hid (IsQ.stb.next HQa.out hb0)
  have Ra_0 := Lib.hid (ra)
  have Qb_0 := Lib.hid (IsQ.stb.next HQb.out hb0)
  have Rb_0 := Lib.hid (rb)
  have Z_0 := Lib.hid (rZ)
  have bw_0 := Lib.hid (hb0)
  have sz_0 : Hid (w.heap.size + 3 ≤ w0.heap.size) := Lib.hid (Nat.le_of_eq Hz.out.symm)
  clear ra rb rZ hb0
  obtain ⟨cRa0_1, cRa1_1, cRa2_1⟩ := zad Ra_0.out
  obtain ⟨cRb0_2, cRb1_2, cRb2_2⟩ := zad Rb_0.out
  obtain ⟨cZ0_3, cZ1_3, cZ2_3⟩ := zad Z_0.out
  obtain ⟨fZ0_3, fZ1_3, fZ2_3⟩ := zaq Z_0.out
  go_enter Tryd.func31, Tryd.ntmps31
  go_wp2_with fail
  clear hw0
  have Qa_1 := Lib.hid (IsQ.stb.next Qa_0.out (zac _))
  have Ra_1 := Lib.hid (Row.next Ra_0.out (zac _))
  have Qb_1 := Lib.hid (IsQ.stb.next Qb_0.out (zac _))
  have Rb_1 := Lib.hid (Row.next Rb_0.out (zac _))
  have Z_1 := Lib.hid (Row.next Z_0.out (zac _))
  have bw_1 := Lib.hid (zaa bw_0.out (zac _))
  have sz_1 := Lib.hid (zai sz_0.out (zac _))
  clear Qa_0 Ra_0 Qb_0 Rb_0 Z_0 bw_0 sz_0
  go_region_held3 (fun w' => w'.cell? ⟨w.heap.size, 1, none⟩ = some (.slice Aa (lim qa.num.natAbs).length cAa) ∧ w'.cell? ⟨w.heap.size, 2, none⟩ = some (.slice Ba (lim qa.den).length cBa) ∧ w'.cell? ⟨w.heap.size + 1, 1, none⟩ = some (.slice Ab (lim qb.num.natAbs).length cAb) ∧ w'.cell? ⟨w.heap.size + 1, 2, none⟩ = some (.slice Bb (lim qb.den).length cBb))
    (first
      | exact ⟨cRa1_1, cRa2_1, cRb1_2, cRb2_2⟩
      | exact ⟨cRa1_4, cRa2_4, cRb1_5, cRb2_5⟩
      | exact ⟨cRa1_7, cRa2_7, cRb1_8, cRb2_8⟩
      | exact ⟨cRa1_10, cRa2_10, cRb1_11, cRb2_11⟩)
    (first
      | (go_at_call 79; have hc := (show Calls Tryd.prog 79 #[.slice Aa (lim qa.num.natAbs).length cAa, .slice Bb (lim qb.den).length cBb] (World.drew w0) (fun e w' => (∃ v, e = .returned v ∧ IsN w' (World.heap (World.drew w0)).size w'.heap.size v x) ∧ Below (World.heap (World.drew w0)).size (World.drew w0) w') from by rw [Hx.out]; exact zel (zak (zcv Qa_1.out)) (zak (zck Qb_1.out)) (Nat.le_refl _) (Nat.le_refl _) (Nat.le_trans Hsa.out.1 (by omega)) (Nat.le_trans Hsb.out.2 (by omega))); (with_reducible refine hc.mono ?_); clear hc; rintro e w1 ⟨⟨v1, rfl, hv⟩, hb⟩; have newX := Lib.hid (zba hv sz_1.out); have Qa_2 := Lib.hid (IsQ.stb.next Qa_1.out (hb)); have Ra_2 := Lib.hid (Row.next Ra_1.out (hb)); have Qb_2 := Lib.hid (IsQ.stb.next Qb_1.out (hb)); have Rb_2 := Lib.hid (Row.next Rb_1.out (hb)); have Z_2 := Lib.hid (Row.next Z_1.out (hb)); have bw_2 := Lib.hid (zaa bw_1.out (hb)); have sz_2 := Lib.hid (zai sz_1.out (hb)); clear Qa_1 Ra_1 Qb_1 Rb_1 Z_1 bw_1 sz_1; have X_0 := newX; clear newX; obtain ⟨P1, k1, rfl, _, _, _⟩ := id hv; clear cRa0_1 cRa1_1 cRa2_1 cRb0_2 cRb1_2 cRb2_2 cZ0_3 cZ1_3 cZ2_3 fZ0_3 fZ1_3 fZ2_3; obtain ⟨cRa0_4, cRa1_4, cRa2_4⟩ := zad Ra_2.out; obtain ⟨cRb0_5, cRb1_5, cRb2_5⟩ := zad Rb_2.out; obtain ⟨cZ0_6, cZ1_6, cZ2_6⟩ := zad Z_2.out; obtain ⟨fZ0_6, fZ1_6, fZ2_6⟩ := zaq Z_2.out)
      | (go_at_call 79; have hc := (show Calls Tryd.prog 79 #[.slice Ab (lim qb.num.natAbs).length cAb, .slice Ba (lim qa.den).length cBa] w1 (fun e w' => (∃ v, e = .returned v ∧ IsN w' (World.heap w1).size w'.heap.size v y) ∧ Below (World.heap w1).size w1 w') from by rw [Hy.out]; exact zel (zak (zcv Qb_2.out)) (zak (zck Qa_2.out)) (Nat.le_refl _) (Nat.le_refl _) (Nat.le_trans Hsb.out.1 (by omega)) (Nat.le_trans Hsa.out.2 (by omega))); (with_reducible refine hc.mono ?_); clear hc; rintro e w2 ⟨⟨v2, rfl, hv2⟩, hb⟩; have newY := Lib.hid (zba hv2 sz_2.out); have Qa_3 := Lib.hid (IsQ.stb.next Qa_2.out (hb)); have Ra_3 := Lib.hid (Row.next Ra_2.out (hb)); have Qb_3 := Lib.hid (IsQ.stb.next Qb_2.out (hb)); have Rb_3 := Lib.hid (Row.next Rb_2.out (hb)); have Z_3 := Lib.hid (Row.next Z_2.out (hb)); have bw_3 := Lib.hid (zaa bw_2.out (hb)); have sz_3 := Lib.hid (zai sz_2.out (hb)); have X_1 := Lib.hid (IsK.stb.fresh X_0.out (hb)); clear Qa_2 Ra_2 Qb_2 Rb_2 Z_2 bw_2 sz_2 X_0; have Y_0 := newY; clear newY; obtain ⟨P2, k2, rfl, _, _, _⟩ := id hv2; clear cRa0_4 cRa1_4 cRa2_4 cRb0_5 cRb1_5 cRb2_5 cZ0_6 cZ1_6 cZ2_6 fZ0_6 fZ1_6 fZ2_6; obtain ⟨cRa0_7, cRa1_7, cRa2_7⟩ := zad Ra_3.out; obtain ⟨cRb0_8, cRb1_8, cRb2_8⟩ := zad Rb_3.out; obtain ⟨cZ0_9, cZ1_9, cZ2_9⟩ := zad Z_3.out; obtain ⟨fZ0_9, fZ1_9, fZ2_9⟩ := zaq Z_3.out)
      | (go_at_call 79; have hc := (show Calls Tryd.prog 79 #[.slice Ba (lim qa.den).length cBa, .slice Bb (lim qb.den).length cBb] w2 (fun e w' => (∃ v, e = .returned v ∧ IsN w' (World.heap w2).size w'.heap.size v d) ∧ Below (World.heap w2).size w2 w') from by rw [Hdd.out]; exact zel (zak (zck Qa_3.out)) (zak (zck Qb_3.out)) (Nat.le_refl _) (Nat.le_refl _) (Nat.le_trans Hsa.out.2 (by omega)) (Nat.le_trans Hsb.out.2 (by omega))); (with_reducible refine hc.mono ?_); clear hc; rintro e w3 ⟨⟨v3, rfl, hv3⟩, hb⟩; have newD := Lib.hid (zba hv3 sz_3.out); have Qa_4 := Lib.hid (IsQ.stb.next Qa_3.out (hb)); have Ra_4 := Lib.hid (Row.next Ra_3.out (hb)); have Qb_4 := Lib.hid (IsQ.stb.next Qb_3.out (hb)); have Rb_4 := Lib.hid (Row.next Rb_3.out (hb)); have Z_4 := Lib.hid (Row.next Z_3.out (hb)); have bw_4 := Lib.hid (zaa bw_3.out (hb)); have sz_4 := Lib.hid (zai sz_3.out (hb)); have X_2 := Lib.hid (IsK.stb.fresh X_1.out (hb)); have Y_1 := Lib.hid (IsK.stb.fresh Y_0.out (hb)); clear Qa_3 Ra_3 Qb_3 Rb_3 Z_3 bw_3 sz_3 X_1 Y_0; have D_0 := newD; clear newD; obtain ⟨P3, k3, rfl, _, _, _⟩ := id hv3; clear cRa0_7 cRa1_7 cRa2_7 cRb0_8 cRb1_8 cRb2_8 cZ0_9 cZ1_9 cZ2_9 fZ0_9 fZ1_9 fZ2_9; obtain ⟨cRa0_10, cRa1_10, cRa2_10⟩ := zad Ra_4.out; obtain ⟨cRb0_11, cRb1_11, cRb2_11⟩ := zad Rb_4.out; obtain ⟨cZ0_12, cZ1_12, cZ2_12⟩ := zad Z_4.out; obtain ⟨fZ0_12, fZ1_12, fZ2_12⟩ := zaq Z_4.out))
  rcases (by cases nega <;> cases negb <;> simp : (nega == negb) = true ∨ (nega == negb) = false) with hs | hs
  · have Hs : Hid (negb = nega) := by unfold Hid; cases nega <;> cases negb <;> simp at hs ⊢
    obtain ⟨n, hn⟩ : ∃ n, n = x + y := ⟨_, rfl⟩
    have Hq : Hid (qc = mkRat (sg nega n) d) := Hov.out _ _ (by rw [Hs.out, hn, sg_add])
    have Hnl : Hid ((lim n).length ≤ 2000000) := by rw [Hid, hn]; exact Nat.le_trans (sz_add Lx.out Ly.out) (by omega)
    have Hn := Lib.hid hn
    clear hn
    go_wp2_with fail
    have Qa_5 := Lib.hid (IsQ.stb.next Qa_4.out (zac _))
    have Ra_5 := Lib.hid (Row.next Ra_4.out (zac _))
    have Qb_5 := Lib.hid (IsQ.stb.next Qb_4.out (zac _))
    have Rb_5 := Lib.hid (Row.next Rb_4.out (zac _))
    have Z_5 := Lib.hid (Row.next Z_4.out (zac _))
    have bw_5 := Lib.hid (zaa bw_4.out (zac _))
    have sz_5 := Lib.hid (zai sz_4.out (zac _))
    have X_3 := Lib.hid (IsK.stb.fresh X_2.out (zac _))
    have Y_2 := Lib.hid (IsK.stb.fresh Y_1.out (zac _))
    have D_1 := Lib.hid (IsK.stb.fresh D_0.out (zac _))
    clear Qa_4 Ra_4 Qb_4 Rb_4 Z_4 bw_4 sz_4 X_2 Y_1 D_0
    go_region_held3 (fun w' => w'.cell? ⟨w.heap.size, 0, none⟩ = some (.bool nega))
      (first
        | exact cRa0_10
        | exact cRa0_13
        | exact cRa0_16
        | exact zap cRa0_16 (by omega))
      (first
        | (go_at_call 81; have hc := (show Calls Tryd.prog 81 #[.slice P1 (lim x).length k1, .slice P2 (lim y).length k2] (World.drew w3) (fun e w' => (∃ v, e = .returned v ∧ IsN w' (World.heap (World.drew w3)).size w'.heap.size v n) ∧ Below (World.heap (World.drew w3)).size (World.drew w3) w') from by rw [Hn.out]; exact rplus_n (zak (IsK.stb.old X_3.out)) (zak (IsK.stb.old Y_2.out)) (Nat.le_refl _) (Nat.le_refl _) (Nat.le_trans Lx.out (by omega)) (Nat.le_trans Ly.out (by omega))); (with_reducible refine hc.mono ?_); clear hc; rintro e wp1 ⟨⟨v4, rfl, hv4⟩, hb⟩; have newN := Lib.hid (zba hv4 sz_5.out); have Qa_6 := Lib.hid (IsQ.stb.next Qa_5.out (hb)); have Ra_6 := Lib.hid (Row.next Ra_5.out (hb)); have Qb_6 := Lib.hid (IsQ.stb.next Qb_5.out (hb)); have Rb_6 := Lib.hid (Row.next Rb_5.out (hb)); have Z_6 := Lib.hid (Row.next Z_5.out (hb)); have bw_6 := Lib.hid (zaa bw_5.out (hb)); have sz_6 := Lib.hid (zai sz_5.out (hb)); have X_4 := Lib.hid (IsK.stb.fresh X_3.out (hb)); have Y_3 := Lib.hid (IsK.stb.fresh Y_2.out (hb)); have D_2 := Lib.hid (IsK.stb.fresh D_1.out (hb)); clear Qa_5 Ra_5 Qb_5 Rb_5 Z_5 bw_5 sz_5 X_3 Y_2 D_1; have N_0 := newN; clear newN; obtain ⟨P4, k4, rfl, _, _, _⟩ := id hv4; clear cRa0_10 cRa1_10 cRa2_10 cRb0_11 cRb1_11 cRb2_11 cZ0_12 cZ1_12 cZ2_12 fZ0_12 fZ1_12 fZ2_12; obtain ⟨cRa0_13, cRa1_13, cRa2_13⟩ := zad Ra_6.out; obtain ⟨cRb0_14, cRb1_14, cRb2_14⟩ := zad Rb_6.out; obtain ⟨cZ0_15, cZ1_15, cZ2_15⟩ := zad Z_6.out; obtain ⟨fZ0_15, fZ1_15, fZ2_15⟩ := zaq Z_6.out)
        | (go_at_call 80; have hc := lowest_q (neg := nega) (zak (IsK.stb.old N_0.out)) (zak (IsK.stb.old D_2.out)) Hd0.out Hnl.out Ld.out Hq.out; (with_reducible refine hc.mono ?_); clear hc; rintro e wp2 ⟨⟨v5, rfl, hv5⟩, hb⟩; have newV := Lib.hid (IsQ.stb.le hv5 sz_6.out); have Qa_7 := Lib.hid (IsQ.stb.next Qa_6.out (hb)); have Ra_7 := Lib.hid (Row.next Ra_6.out (hb)); have Qb_7 := Lib.hid (IsQ.stb.next Qb_6.out (hb)); have Rb_7 := Lib.hid (Row.next Rb_6.out (hb)); have Z_7 := Lib.hid (Row.next Z_6.out (hb)); have bw_7 := Lib.hid (zaa bw_6.out (hb)); have sz_7 := Lib.hid (zai sz_6.out (hb)); have X_5 := Lib.hid (IsK.stb.fresh X_4.out (hb)); have Y_4 := Lib.hid (IsK.stb.fresh Y_3.out (hb)); have D_3 := Lib.hid (IsK.stb.fresh D_2.out (hb)); have N_1 := Lib.hid (IsK.stb.fresh N_0.out (hb)); clear Qa_6 Ra_6 Qb_6 Rb_6 Z_6 bw_6 sz_6 X_4 Y_3 D_2 N_0; have V_0 := newV; clear newV; obtain ⟨s5, P5, k5, O5, l5, rfl, _, _, _⟩ := zam hv5; clear cRa0_13 cRa1_13 cRa2_13 cRb0_14 cRb1_14 cRb2_14 cZ0_15 cZ1_15 cZ2_15 fZ0_15 fZ1_15 fZ2_15; obtain ⟨cRa0_16, cRa1_16, cRa2_16⟩ := zad Ra_7.out; obtain ⟨cRb0_17, cRb1_17, cRb2_17⟩ := zad Rb_7.out; obtain ⟨cZ0_18, cZ1_18, cZ2_18⟩ := zad Z_7.out; obtain ⟨fZ0_18, fZ1_18, fZ2_18⟩ := zaq Z_7.out))
    go_wp2_with fail
    refine zbb Tryd.results31 rfl rfl (Row.put3 Z_7.out _ _ _) (zew V_0.out bw_7.out (by omega) (by omega))
  · have Hs : Hid (negb = !nega) := by unfold Hid; cases nega <;> cases negb <;> simp at hs ⊢
    rcases Nat.lt_or_ge x y with hlt | hge
    · have Hlt := Lib.hid hlt
      obtain ⟨n, hn⟩ : ∃ n, n = y - x := ⟨_, rfl⟩
      have Hq : Hid (qc = mkRat (sg negb n) d) := Hov.out _ _ (by rw [Hs.out, hn, sg_sub' (Nat.le_of_lt hlt)]; simp)
      have Hnl : Hid ((lim n).length ≤ 2000000) := by rw [Hid, hn]; exact Nat.le_trans (zau (Nat.sub_le _ _)) (Nat.le_trans Ly.out (by omega))
      have Hn := Lib.hid hn
      have Hsg := Lib.hid (sgn_lt hlt)
      clear hn hlt
      go_wp2_with fail
      refine ((show Calls Tryd.prog 82 #[.slice P1 (lim x).length k1, .slice P2 (lim y).length k2] w3 (fun e w' => e = .returned (.int .i64 (-1)) ∧ Below w3.heap.size w3 w') from by rw [← Hsg.out]; exact (rorder_n (zak (IsK.stb.old X_2.out)) (zak (IsK.stb.old Y_1.out))).mono fun e w' ⟨he, hd⟩ => ⟨he, hd.below _⟩)).mono ?_
      rintro e w4 ⟨rfl, hb⟩
      have Qa_5 := Lib.hid (IsQ.stb.next Qa_4.out (hb))
      have Ra_5 := Lib.hid (Row.next Ra_4.out (hb))
      have Qb_5 := Lib.hid (IsQ.stb.next Qb_4.out (hb))
      have Rb_5 := Lib.hid (Row.next Rb_4.out (hb))
      have Z_5 := Lib.hid (Row.next Z_4.out (hb))
      have bw_5 := Lib.hid (zaa bw_4.out (hb))
      have sz_5 := Lib.hid (zai sz_4.out (hb))
      have X_3 := Lib.hid (IsK.stb.fresh X_2.out (hb))
      have Y_2 := Lib.hid (IsK.stb.fresh Y_1.out (hb))
      have D_1 := Lib.hid (IsK.stb.fresh D_0.out (hb))
      clear Qa_4 Ra_4 Qb_4 Rb_4 Z_4 bw_4 sz_4 X_2 Y_1 D_0
      clear cRa0_10 cRa1_10 cRa2_10 cRb0_11 cRb1_11 cRb2_11 cZ0_12 cZ1_12 cZ2_12 fZ0_12 fZ1_12 fZ2_12
      obtain ⟨cRa0_13, cRa1_13, cRa2_13⟩ := zad Ra_5.out
      obtain ⟨cRb0_14, cRb1_14, cRb2_14⟩ := zad Rb_5.out
      obtain ⟨cZ0_15, cZ1_15, cZ2_15⟩ := zad Z_5.out
      obtain ⟨fZ0_15, fZ1_15, fZ2_15⟩ := zaq Z_5.out
      go_wp2_with fail
      have Qa_6 := Lib.hid (IsQ.stb.next Qa_5.out (zac _))
      have Ra_6 := Lib.hid (Row.next Ra_5.out (zac _))
      have Qb_6 := Lib.hid (IsQ.stb.next Qb_5.out (zac _))
      have Rb_6 := Lib.hid (Row.next Rb_5.out (zac _))
      have Z_6 := Lib.hid (Row.next Z_5.out (zac _))
      have bw_6 := Lib.hid (zaa bw_5.out (zac _))
      have sz_6 := Lib.hid (zai sz_5.out (zac _))
      have X_4 := Lib.hid (IsK.stb.fresh X_3.out (zac _))
      have Y_3 := Lib.hid (IsK.stb.fresh Y_2.out (zac _))
      have D_2 := Lib.hid (IsK.stb.fresh D_1.out (zac _))
      clear Qa_5 Ra_5 Qb_5 Rb_5 Z_5 bw_5 sz_5 X_3 Y_2 D_1
      go_region_held3 (fun w' => w'.cell? ⟨w.heap.size + 1, 0, none⟩ = some (.bool negb))
        (first
          | exact cRb0_14
          | exact cRb0_17
          | exact cRb0_20
          | exact zap cRb0_20 (by omega))
        (first
          | (go_at_call 83; have hc := (show Calls Tryd.prog 83 #[.slice P2 (lim y).length k2, .slice P1 (lim x).length k1] (World.drew w4) (fun e w' => (∃ v, e = .returned v ∧ IsN w' (World.heap (World.drew w4)).size w'.heap.size v n) ∧ Below (World.heap (World.drew w4)).size (World.drew w4) w') from by rw [Hn.out]; exact rminus_n (zak (IsK.stb.old Y_3.out)) (zak (IsK.stb.old X_4.out)) (Nat.le_refl _) (Nat.le_refl _) (Nat.le_of_lt Hlt.out) (Nat.le_trans Ly.out (by omega))); (with_reducible refine hc.mono ?_); clear hc; rintro e wm1 ⟨⟨v5, rfl, hv5⟩, hb⟩; have newN := Lib.hid (zba hv5 sz_6.out); have Qa_7 := Lib.hid (IsQ.stb.next Qa_6.out (hb)); have Ra_7 := Lib.hid (Row.next Ra_6.out (hb)); have Qb_7 := Lib.hid (IsQ.stb.next Qb_6.out (hb)); have Rb_7 := Lib.hid (Row.next Rb_6.out (hb)); have Z_7 := Lib.hid (Row.next Z_6.out (hb)); have bw_7 := Lib.hid (zaa bw_6.out (hb)); have sz_7 := Lib.hid (zai sz_6.out (hb)); have X_5 := Lib.hid (IsK.stb.fresh X_4.out (hb)); have Y_4 := Lib.hid (IsK.stb.fresh Y_3.out (hb)); have D_3 := Lib.hid (IsK.stb.fresh D_2.out (hb)); clear Qa_6 Ra_6 Qb_6 Rb_6 Z_6 bw_6 sz_6 X_4 Y_3 D_2; have N_0 := newN; clear newN; obtain ⟨P5, k5, rfl, _, _, _⟩ := id hv5; clear cRa0_13 cRa1_13 cRa2_13 cRb0_14 cRb1_14 cRb2_14 cZ0_15 cZ1_15 cZ2_15 fZ0_15 fZ1_15 fZ2_15; obtain ⟨cRa0_16, cRa1_16, cRa2_16⟩ := zad Ra_7.out; obtain ⟨cRb0_17, cRb1_17, cRb2_17⟩ := zad Rb_7.out; obtain ⟨cZ0_18, cZ1_18, cZ2_18⟩ := zad Z_7.out; obtain ⟨fZ0_18, fZ1_18, fZ2_18⟩ := zaq Z_7.out)
          | (go_at_call 80; have hc := lowest_q (neg := negb) (zak (IsK.stb.old N_0.out)) (zak (IsK.stb.old D_3.out)) Hd0.out Hnl.out Ld.out Hq.out; (with_reducible refine hc.mono ?_); clear hc; rintro e wm2 ⟨⟨v6, rfl, hv6⟩, hb⟩; have newV := Lib.hid (IsQ.stb.le hv6 sz_7.out); have Qa_8 := Lib.hid (IsQ.stb.next Qa_7.out (hb)); have Ra_8 := Lib.hid (Row.next Ra_7.out (hb)); have Qb_8 := Lib.hid (IsQ.stb.next Qb_7.out (hb)); have Rb_8 := Lib.hid (Row.next Rb_7.out (hb)); have Z_8 := Lib.hid (Row.next Z_7.out (hb)); have bw_8 := Lib.hid (zaa bw_7.out (hb)); have sz_8 := Lib.hid (zai sz_7.out (hb)); have X_6 := Lib.hid (IsK.stb.fresh X_5.out (hb)); have Y_5 := Lib.hid (IsK.stb.fresh Y_4.out (hb)); have D_4 := Lib.hid (IsK.stb.fresh D_3.out (hb)); have N_1 := Lib.hid (IsK.stb.fresh N_0.out (hb)); clear Qa_7 Ra_7 Qb_7 Rb_7 Z_7 bw_7 sz_7 X_5 Y_4 D_3 N_0; have V_0 := newV; clear newV; obtain ⟨s6, P6, k6, O6, l6, rfl, _, _, _⟩ := zam hv6; clear cRa0_16 cRa1_16 cRa2_16 cRb0_17 cRb1_17 cRb2_17 cZ0_18 cZ1_18 cZ2_18 fZ0_18 fZ1_18 fZ2_18; obtain ⟨cRa0_19, cRa1_19, cRa2_19⟩ := zad Ra_8.out; obtain ⟨cRb0_20, cRb1_20, cRb2_20⟩ := zad Rb_8.out; obtain ⟨cZ0_21, cZ1_21, cZ2_21⟩ := zad Z_8.out; obtain ⟨fZ0_21, fZ1_21, fZ2_21⟩ := zaq Z_8.out))
      go_wp2_with fail
      refine zbb Tryd.results31 rfl rfl (Row.put3 Z_8.out _ _ _) (zew V_0.out bw_8.out (by omega) (by omega))
    · have Hge := Lib.hid hge
      obtain ⟨n, hn⟩ : ∃ n, n = x - y := ⟨_, rfl⟩
      have Hq : Hid (qc = mkRat (sg nega n) d) := Hov.out _ _ (by rw [Hs.out, hn, sg_sub hge])
      have Hnl : Hid ((lim n).length ≤ 2000000) := by rw [Hid, hn]; exact Nat.le_trans (zau (Nat.sub_le _ _)) (Nat.le_trans Lx.out (by omega))
      have Hn := Lib.hid hn
      obtain ⟨r, hr, hr0⟩ : ∃ r, r = sgn x y ∧ 0 ≤ r := by
        refine ⟨_, rfl, ?_⟩
        rcases Nat.lt_or_ge y x with h | h
        · rw [sgn_gt h]; omega
        · rw [sgn_eq (Nat.le_antisymm h hge)]; omega
      have Hsg := Lib.hid hr
      clear hn hge hr
      go_wp2_with fail
      refine ((show Calls Tryd.prog 82 #[.slice P1 (lim x).length k1, .slice P2 (lim y).length k2] w3 (fun e w' => e = .returned (.int .i64 r) ∧ Below w3.heap.size w3 w') from by rw [Hsg.out]; exact (rorder_n (zak (IsK.stb.old X_2.out)) (zak (IsK.stb.old Y_1.out))).mono fun e w' ⟨he, hd⟩ => ⟨he, hd.below _⟩)).mono ?_
      rintro e w4 ⟨rfl, hb⟩
      have Qa_5 := Lib.hid (IsQ.stb.next Qa_4.out (hb))
      have Ra_5 := Lib.hid (Row.next Ra_4.out (hb))
      have Qb_5 := Lib.hid (IsQ.stb.next Qb_4.out (hb))
      have Rb_5 := Lib.hid (Row.next Rb_4.out (hb))
      have Z_5 := Lib.hid (Row.next Z_4.out (hb))
      have bw_5 := Lib.hid (zaa bw_4.out (hb))
      have sz_5 := Lib.hid (zai sz_4.out (hb))
      have X_3 := Lib.hid (IsK.stb.fresh X_2.out (hb))
      have Y_2 := Lib.hid (IsK.stb.fresh Y_1.out (hb))
      have D_1 := Lib.hid (IsK.stb.fresh D_0.out (hb))
      clear Qa_4 Ra_4 Qb_4 Rb_4 Z_4 bw_4 sz_4 X_2 Y_1 D_0
      clear cRa0_10 cRa1_10 cRa2_10 cRb0_11 cRb1_11 cRb2_11 cZ0_12 cZ1_12 cZ2_12 fZ0_12 fZ1_12 fZ2_12
      obtain ⟨cRa0_13, cRa1_13, cRa2_13⟩ := zad Ra_5.out
      obtain ⟨cRb0_14, cRb1_14, cRb2_14⟩ := zad Rb_5.out
      obtain ⟨cZ0_15, cZ1_15, cZ2_15⟩ := zad Z_5.out
      obtain ⟨fZ0_15, fZ1_15, fZ2_15⟩ := zaq Z_5.out
      go_wp2_with fail
      have Qa_6 := Lib.hid (IsQ.stb.next Qa_5.out (zac _))
      have Ra_6 := Lib.hid (Row.next Ra_5.out (zac _))
      have Qb_6 := Lib.hid (IsQ.stb.next Qb_5.out (zac _))
      have Rb_6 := Lib.hid (Row.next Rb_5.out (zac _))
      have Z_6 := Lib.hid (Row.next Z_5.out (zac _))
      have bw_6 := Lib.hid (zaa bw_5.out (zac _))
      have sz_6 := Lib.hid (zai sz_5.out (zac _))
      have X_4 := Lib.hid (IsK.stb.fresh X_3.out (zac _))
      have Y_3 := Lib.hid (IsK.stb.fresh Y_2.out (zac _))
      have D_2 := Lib.hid (IsK.stb.fresh D_1.out (zac _))
      clear Qa_5 Ra_5 Qb_5 Rb_5 Z_5 bw_5 sz_5 X_3 Y_2 D_1
      go_region_held3 (fun w' => w'.cell? ⟨w.heap.size, 0, none⟩ = some (.bool nega))
        (first
          | exact cRa0_13
          | exact cRa0_16
          | exact cRa0_19
          | exact zap cRa0_19 (by omega))
        (first
          | (go_at_call 83; have hc := (show Calls Tryd.prog 83 #[.slice P1 (lim x).length k1, .slice P2 (lim y).length k2] (World.drew w4) (fun e w' => (∃ v, e = .returned v ∧ IsN w' (World.heap (World.drew w4)).size w'.heap.size v n) ∧ Below (World.heap (World.drew w4)).size (World.drew w4) w') from by rw [Hn.out]; exact rminus_n (zak (IsK.stb.old X_4.out)) (zak (IsK.stb.old Y_3.out)) (Nat.le_refl _) (Nat.le_refl _) Hge.out (Nat.le_trans Lx.out (by omega))); (with_reducible refine hc.mono ?_); clear hc; rintro e wm1 ⟨⟨v5, rfl, hv5⟩, hb⟩; have newN := Lib.hid (zba hv5 sz_6.out); have Qa_7 := Lib.hid (IsQ.stb.next Qa_6.out (hb)); have Ra_7 := Lib.hid (Row.next Ra_6.out (hb)); have Qb_7 := Lib.hid (IsQ.stb.next Qb_6.out (hb)); have Rb_7 := Lib.hid (Row.next Rb_6.out (hb)); have Z_7 := Lib.hid (Row.next Z_6.out (hb)); have bw_7 := Lib.hid (zaa bw_6.out (hb)); have sz_7 := Lib.hid (zai sz_6.out (hb)); have X_5 := Lib.hid (IsK.stb.fresh X_4.out (hb)); have Y_4 := Lib.hid (IsK.stb.fresh Y_3.out (hb)); have D_3 := Lib.hid (IsK.stb.fresh D_2.out (hb)); clear Qa_6 Ra_6 Qb_6 Rb_6 Z_6 bw_6 sz_6 X_4 Y_3 D_2; have N_0 := newN; clear newN; obtain ⟨P5, k5, rfl, _, _, _⟩ := id hv5; clear cRa0_13 cRa1_13 cRa2_13 cRb0_14 cRb1_14 cRb2_14 cZ0_15 cZ1_15 cZ2_15 fZ0_15 fZ1_15 fZ2_15; obtain ⟨cRa0_16, cRa1_16, cRa2_16⟩ := zad Ra_7.out; obtain ⟨cRb0_17, cRb1_17, cRb2_17⟩ := zad Rb_7.out; obtain ⟨cZ0_18, cZ1_18, cZ2_18⟩ := zad Z_7.out; obtain ⟨fZ0_18, fZ1_18, fZ2_18⟩ := zaq Z_7.out)
          | (go_at_call 80; have hc := lowest_q (neg := nega) (zak (IsK.stb.old N_0.out)) (zak (IsK.stb.old D_3.out)) Hd0.out Hnl.out Ld.out Hq.out; (with_reducible refine hc.mono ?_); clear hc; rintro e wm2 ⟨⟨v6, rfl, hv6⟩, hb⟩; have newV := Lib.hid (IsQ.stb.le hv6 sz_7.out); have Qa_8 := Lib.hid (IsQ.stb.next Qa_7.out (hb)); have Ra_8 := Lib.hid (Row.next Ra_7.out (hb)); have Qb_8 := Lib.hid (IsQ.stb.next Qb_7.out (hb)); have Rb_8 := Lib.hid (Row.next Rb_7.out (hb)); have Z_8 := Lib.hid (Row.next Z_7.out (hb)); have bw_8 := Lib.hid (zaa bw_7.out (hb)); have sz_8 := Lib.hid (zai sz_7.out (hb)); have X_6 := Lib.hid (IsK.stb.fresh X_5.out (hb)); have Y_5 := Lib.hid (IsK.stb.fresh Y_4.out (hb)); have D_4 := Lib.hid (IsK.stb.fresh D_3.out (hb)); have N_1 := Lib.hid (IsK.stb.fresh N_0.out (hb)); clear Qa_7 Ra_7 Qb_7 Rb_7 Z_7 bw_7 sz_7 X_5 Y_4 D_3 N_0; have V_0 := newV; clear newV; obtain ⟨s6, P6, k6, O6, l6, rfl, _, _, _⟩ := zam hv6; clear cRa0_16 cRa1_16 cRa2_16 cRb0_17 cRb1_17 cRb2_17 cZ0_18 cZ1_18 cZ2_18 fZ0_18 fZ1_18 fZ2_18; obtain ⟨cRa0_19, cRa1_19, cRa2_19⟩ := zad Ra_8.out; obtain ⟨cRb0_20, cRb1_20, cRb2_20⟩ := zad Rb_8.out; obtain ⟨cZ0_21, cZ1_21, cZ2_21⟩ := zad Z_8.out; obtain ⟨fZ0_21, fZ1_21, fZ2_21⟩ := zaq Z_8.out))
      go_wp2_with fail
      refine zbb Tryd.results31 rfl rfl (Row.put3 Z_8.out _ _ _) (zew V_0.out bw_8.out (by omega) (by omega))
end Go.Proofs.YtblpaocignlpkaaDoor
