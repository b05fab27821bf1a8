/-
  The contract of package long's Div.
-/
import Derived.Test.YtbeocfiimminiaaDoorLongD
namespace Go.Proofs.YtbeocfiimminiaaDoor
open Go.RowKit
set_option linter.unusedVariables false

theorem digit_at (G off N1 N : Nat) (P M S : List Nat) (B : Option Addr) (c d m : Nat) (v : List Nat) (w : World) (lo hi : Nat) (hoff : P.length = off) (hN1 : N1 = m + 3) (hN : N = m + 2) (hv : Lo v) (hM : Lo M) (hvl : v.length = m + 2) (hMl : M.length = m + 3) (hm : m ≤ 8589934592)
    (hP : P.length ≤ 8589934592) (hc : m + 3 ≤ c) (hv1 : 1 ≤ v.getD (m + 1) 0) (hlt : val M < val v * 1000000000) (hr : Row w G 34 (cel .u32 (P ++ M ++ S))) (hB : SV w lo hi B (cel .u32 v)) (hG : G < lo ∨ hi ≤ G) :
    Calls Tryd.prog 55 #[.slice (some ⟨G, off, none⟩) N1 c, .slice B N d] w fun e w' => (∃ M', e = .returned (.int .u32 ((val M / val v : Nat) : Int)) ∧ Row w' G 34 (cel .u32 (P ++ M' ++ S)) ∧ M'.length = m + 3 ∧ Lo M' ∧ val M' = val M % val v) ∧ Only G w w' := by
  subst hoff
  subst hN1
  subst hN
  exact digit_list G P M S B c d m v w lo hi hv hM hvl hMl hm hP hc hv1 hlt hr hB hG

set_option maxRecDepth 100000 in
set_option maxHeartbeats 1000000 in
theorem div_n {w : World} {va vb : Value} {x y lo hi lo' hi' : Nat} (ha : IsN w lo hi va x) (hb : IsN w lo' hi' vb y) (hi1 : hi ≤ w.heap.size) (hi2 : hi' ≤ w.heap.size) (hx : (lim x).length ≤ 4294967296) (hy : (lim y).length ≤ 4294967296) (hy0 : 0 < y) :
    Calls Tryd.prog 37 #[va, vb] w fun e w' => (∃ q r, e = .returned (.tuple #[q, r]) ∧ IsN w' w.heap.size w'.heap.size q (x / y) ∧ IsN w' w.heap.size w'.heap.size r (x % y)) ∧ Below w.heap.size w w' := by
  have Ha := Lib.hid ha
  have Hb := Lib.hid hb
  obtain ⟨A, c, rfl, hac, hcm, hA⟩ := ha
  obtain ⟨B, d, rfl, hbd, hdm, hB⟩ := hb
  rcases Nat.lt_or_ge x y with hxy | hxy
  · have Hq : Hid (x / y = 0 ∧ x % y = x) := ⟨Nat.div_eq_of_lt hxy, Nat.mod_eq_of_lt hxy⟩
    have Hs : Hid (sgn x y = -1) := sgn_lt hxy
    go_enter Tryd.func37, Tryd.ntmps37
    go_wp2_with fail
    refine (cmp_n Ha.out Hb.out).mono ?_
    rw [Hs.out]
    rintro e w1 ⟨rfl, n, rfl⟩
    go_wp2_with fail
    refine (copy_n (Ha.out.drewN n) hx).mono ?_
    rintro e w2 ⟨⟨v, rfl, hv⟩, hb2⟩
    go_wp2_with fail
    go_ret2
    refine ⟨⟨_, _, rfl, ?_, ?_⟩, ((Below.refl _ w).trans (below_drewN (Below.refl _ _) n)).trans hb2⟩
    · rw [Hq.out.1]; exact IsN.zero
    · rw [Hq.out.2]; exact hv
  · have Hs : Hid (0 ≤ sgn x y) := by unfold Hid sgn; split <;> (try split) <;> omega
    by_cases hb1 : (lim y).length = 1
    · obtain ⟨bb, ob, rfl, _, _, hcb⟩ := hB (cel_ne (j := 0) (by omega))
      obtain ⟨x0, hx0, hx00, hx01, hx0c⟩ := cell_lo (j := 0) (lo_lim y) hcb (by omega)
      clear hcb
      rw [Nat.add_zero] at hx0c
      have hxy0 : x0 = (y : Int) := by
        rw [hx0.out]
        have h := val_lim y
        match hl : lim y, hb1 with
        | [z], _ => rw [hl] at h; simp [val] at h; simp [h]
      have Hxy0 := Lib.hid hxy0
      have hx01' : 1 ≤ x0 := by omega
      clear hxy0
      have Hb1 := Lib.hid hb1
      have hb1a : (lim y).length ≤ 1 := by omega
      have hb1b : 1 ≤ (lim y).length := by omega
      clear hb1
      go_enter Tryd.func37, Tryd.ntmps37
      go_wp2_with fail
      refine (cmp_n Ha.out Hb.out).mono ?_
      generalize sgn x y = sg at *
      have hs := Hs.out
      rintro e w1 ⟨rfl, n, rfl⟩
      go_wp2_with fail
      refine (short_n (Ha.out.drewN n) hi1 hx hx01' hx01).mono ?_
      rintro e w2 ⟨⟨v, rm, rfl, hrm0, hrm1, hrm, hv⟩, hb2⟩
      go_wp2_with fail
      refine (of_i _ _ hrm0 (by omega)).mono ?_
      rintro e w3 ⟨⟨v3, rfl, hv3⟩, hb3⟩
      go_wp2_with fail
      go_ret2
      have hy2 : x0.toNat = y := by have := Hxy0.out; omega
      rw [hrm.out, hy2] at hv3
      rw [hy2] at hv
      have hbw2 : Below w.heap.size w w2 := (below_drewN (Below.refl _ w) n).trans hb2
      have hz2 := hbw2.size
      have hz3 := hb3.size
      exact ⟨⟨_, _, rfl, (hv.below hb3 (Nat.le_refl _)).wide (Nat.le_refl _) hz3, hv3.wide hz2 (Nat.le_refl _)⟩, hbw2.trans (hb3.mono hz2)⟩
    · obtain ⟨m, hm⟩ : ∃ m, (lim y).length = m + 2 := by
        refine ⟨(lim y).length - 2, ?_⟩
        have : (lim y).length ≠ 0 := by rw [ne_eq, lim_nil_iff]; omega
        omega
      obtain ⟨k, hk⟩ : ∃ k, (lim x).length = m + 2 + k := ⟨(lim x).length - (m + 2), by have := lim_len_mono hxy; omega⟩
      rw [hm] at hbd hy
      rw [hk] at hac hx
      have hbn : (((m : Int) + 2) == 1) = false := beq_eq_false_iff_ne.2 (by omega)
      obtain ⟨bb, ob, rfl, _, _, hcb⟩ := hB (cel_ne (j := m + 1) (by omega))
      obtain ⟨b1, hb1e, hb10, hb11, hb1c⟩ := cell_lo (j := m + 1) (lo_lim y) hcb (by omega)
      clear hcb hb1
      have hb12 : 1 ≤ b1 := by have := top_pos (lo_lim y) hm (by rw [val_lim]; exact lim_len_lt.1 (by omega)); have := hb1e.out; omega
      have hF := factor_facts (lo_lim y) hm hb1e.out hb12 hb11
      have hF1 := hF.1
      have hF2 := hF.2.1
      have HF := Lib.hid hF.2.2
      clear hF
      have Hfx : Hid (val (lim x) * (1000000000 / (b1 + 1)).toNat < pw (m + 2 + k + 1)) := by
        have h1 := lim_lt x
        rw [hk] at h1
        rw [val_lim, Hid, pw_succ, Nat.mul_comm 1000000000]
        exact Nat.lt_of_le_of_lt (Nat.mul_le_mul_left x (show (1000000000 / (b1 + 1)).toNat ≤ 1000000000 by omega)) (Nat.mul_lt_mul_of_pos_right h1 (by omega))
      have Hk := Lib.hid hk
      have Hm := Lib.hid hm
      clear hk hm
      rw [Hk.out] at Ha ⊢
      rw [Hm.out] at Hb ⊢
      go_enter Tryd.func37, Tryd.ntmps37
      go_wp2_with fail
      refine (cmp_n Ha.out Hb.out).mono ?_
      generalize sgn x y = sg at *
      have hs := Hs.out
      rintro e w1 ⟨rfl, n, rfl⟩
      go_wp2_with fail
      have hF3 : 0 ≤ 1000000000 / (b1 + 1) := by omega
      rw [val_lim] at HF Hfx
      generalize hFe : 1000000000 / (b1 + 1) = F at *
      have HFe := Lib.hid hFe
      clear hFe
      refine (times_n (Ha.out.drewN n) hi1 (m + 2 + k + 1) (by omega) (by rw [Hk.out]; omega) (by omega) hF3 hF2 Hfx.out).mono ?_
      rintro e w2 ⟨⟨Gu, Lu, rfl, hGu, hrU, hLul, hLuo, hLuv⟩, hb2⟩
      have HLu := Lib.hid (And.intro hLul (And.intro hLuo hLuv))
      clear hLul hLuo hLuv
      have hbw2 : Below w.heap.size w w2 := (below_drewN (Below.refl _ w) n).trans hb2
      have hz2 := hbw2.size
      have hGu2 := hrU.lt
      go_wp2_with fail
      refine (times_n (Hb.out.below hbw2 hi2) (Nat.le_trans hi2 hz2) (m + 2) (by omega) (by rw [Hm.out]; omega) (by omega) hF3 hF2 HF.out).mono ?_
      rintro e w3 ⟨⟨Gv, Lv, rfl, hGv, hrV, hLvl, hLvo, hLvv⟩, hb3⟩
      have HLv := Lib.hid (And.intro hLvl (And.intro hLvo hLvv))
      clear hLvl hLvo hLvv
      have hrU3 := hrU.below hb3 hGu2
      clear hrU
      have hbw3 : Below w.heap.size w w3 := hbw2.trans (hb3.mono hz2)
      have hz3 := hbw3.size
      have hGv3 := hrV.lt
      go_wp2_with (at_make; refine wp_make elN rfl _ _ rfl (k + 1) rfl rfl (by omega) (by omega) (by omega) ?_; intro Gq w4 hGq hrq hb4 hz4)
      have hGuw : w.heap.size ≤ Gu := hGu
      have hGqv : w3.heap.size ≤ Gq := by have := hGq.out; omega
      have hb4' : Below w.heap.size w w4 := hbw3.trans (hb4.mono (by omega))
      have HV : Hid (val Lv = y * F.toNat ∧ 0 < val Lv ∧ val Lv ≤ pw (m + 2) ∧ 1 ≤ Lv.getD (m + 1) 0) := by
        have h1 := HLv.out.2.2
        have h2 : pw (m + 1) ≤ y := lim_len_lt.1 (by rw [Hm.out]; omega)
        have h3 : y * 1 ≤ y * F.toNat := Nat.mul_le_mul_left y (by omega)
        refine ⟨h1, by omega, ?_, top_pos HLv.out.2.1 HLv.out.1 (by omega)⟩
        have := val_lt HLv.out.2.1
        rw [HLv.out.1] at this
        omega
      go_loopw [12] (fun j wr => ∃ (i : Nat) (L Q : List Nat), i ≤ k + 1 ∧ j = .int .i64 ((i : Int) - 1) ∧ Row wr Gu 34 (cel .u32 L) ∧ Row wr Gv 34 (cel .u32 Lv) ∧ Row wr Gq 34 (cel .u32 Q) ∧ Below w.heap.size w wr ∧
          Hid (L.length = m + 2 + k + 1 ∧ Lo L ∧ Q.length = k + 1 ∧ Lo Q ∧ (∀ j, j < i → Q.getD j 0 = 0) ∧ val (L.drop i) < val Lv ∧ val L + val Lv * val Q = x * F.toNat)) (fun j _ => (intOf j + 1).toNat)
      case atStart =>
        refine ⟨k + 1, Lu, _, Nat.le_refl _, int_eq (by omega), hrU3.below hb4 (by omega), hrV.below hb4 (by omega), hrq, hb4', HLu.out.1, HLu.out.2.1, by simp, lo_replicate _, ?_, ?_, ?_⟩
        · intro j _
          rw [List.getD_eq_getElem?_getD, List.getElem?_replicate]
          split <;> rfl
        · rw [HV.out.1]
          exact div_start HLu.out.1 HLu.out.2.2 (by have := lim_lt x; rw [Hk.out] at this; exact this) (lim_len_lt.1 (by rw [Hm.out]; omega)) (by omega)
        · rw [HLu.out.2.2, val_zeros (l := List.replicate (k + 1) 0) (fun x hx => (List.mem_replicate.1 hx).2), Nat.mul_zero, Nat.add_zero]
      case round =>
        clear hb1c hrU3 hrV hrq hb2 hb3 hb4 hb4'
        obtain ⟨i, L, Q, hi, rfl, hrU, hrV, hrq, hbw, hrel⟩ := hrel
        rcases i with _ | i
        · have hV0 : val L < val Lv := by have := hrel.out.2.2.2.2.2.1; rw [List.drop_zero] at this; exact this
          have hVL : val L + val Lv * val Q = x * F.toNat := hrel.out.2.2.2.2.2.2
          rw [HV.out.1] at hV0 hVL
          have he := div_end (by omega) hV0 hVL
          have Ht : Hid (val (L.take (m + 2)) = val L) := by
            have h1 := val_split L (m + 2) (by have := hrel.out.1; omega)
            rcases Nat.eq_zero_or_pos (val (L.drop (m + 2))) with h0 | h0
            · rw [h0, Nat.mul_zero, Nat.add_zero] at h1; exact h1.symm
            · have := Nat.mul_le_mul_left (pw (m + 2)) h0
              have h2 := HV.out.2.2.1
              have h3 := hrel.out.2.2.2.2.2.1
              rw [List.drop_zero] at h3
              omega
          have He := Lib.hid he
          clear hV0 hVL he
          go_wp2_with fail
          have hLt : IsL .u32 wr Gu (Gu + 1) (.slice (some ⟨Gu, 0, none⟩) (m + 2) (m + 2 + k + 1)) (L.take (m + 2)) :=
            ⟨_, _, by rw [List.length_take, Nat.min_eq_left (by have := hrel.out.1; omega)], by rw [List.length_take]; omega, by unfold maxLen; omega, by rw [cel_take]; exact hrU.sv.take _⟩
          refine (trim_l hLt (lo_take hrel.out.2.1 _)).mono ?_
          rintro e w5 ⟨⟨v5, rfl, hv5⟩, rfl⟩
          rw [Ht.out] at hv5
          have hGuL := hrU.lt
          go_wp2_with fail
          refine (short_n hv5 (by omega) (by have := lim_val_len (lo_take hrel.out.2.1 (m + 2)); rw [Ht.out, List.length_take] at this; omega) hF1 hF2).mono ?_
          rintro e w6 ⟨⟨v6, r6, rfl, _, _, _, hv6⟩, hb6⟩
          rw [He.out.2] at hv6
          go_wp2_with fail
          have hrq6 := hrq.below hb6 hrq.lt
          have hz5 := hbw.size
          have hz6 := hb6.size
          have hLq : IsL .u32 w6 Gq (Gq + 1) (.slice (some ⟨Gq, 0, none⟩) (k + 1) (k + 1)) Q := ⟨_, _, by rw [hrel.out.2.2.1], by have := hrel.out.2.2.1; omega, by unfold maxLen; omega, hrq6.sv⟩
          refine (trim_l hLq hrel.out.2.2.2.1).mono ?_
          rintro e w7 ⟨⟨v7, rfl, hv7⟩, rfl⟩
          rw [He.out.1] at hv7
          have hGqL := hrq6.lt
          go_wp2_with fail
          go_ret2
          exact ⟨⟨_, _, rfl, hv7.wide (by omega) hGqL, hv6.wide hz5 (Nat.le_refl _)⟩, hbw.trans (hb6.mono hz5)⟩
        · have hds := div_split hrel.out.2.1 (j := i) (n := m + 2) (by have := hrel.out.1; omega) HV.out.2.2.1 hrel.out.2.2.2.2.2.1
          have Hds := Lib.hid hds
          clear hds
          rw [show (((i + 1 : Nat) : Int) - 1) = (i : Int) from by omega]
          have hrU' : Row wr Gu 34 (cel .u32 (L.take i ++ (L.drop i).take (m + 2 + 1) ++ L.drop (i + (m + 2) + 1))) := by
            have e : L.take i ++ (L.drop i).take (m + 2 + 1) ++ L.drop (i + (m + 2) + 1) = L := by
              rw [List.append_assoc, show i + (m + 2) + 1 = i + (m + 2 + 1) by omega, ← List.drop_drop, List.take_append_drop, List.take_append_drop]
            rw [e]
            exact hrU
          go_wp2_with fail
          refine (digit_at Gu i _ _ (L.take i) ((L.drop i).take (m + 2 + 1)) (L.drop (i + (m + 2) + 1)) _ _ _ m Lv wr Gv (Gv + 1) (by rw [List.length_take]; have := hrel.out.1; omega) (by omega) (by omega) HLv.out.2.1 (lo_take (lo_drop hrel.out.2.1 _) _) HLv.out.1
            (by rw [List.length_take, List.length_drop]; have := hrel.out.1; omega) (by omega) (by rw [List.length_take]; omega) (by omega) HV.out.2.2.2 Hds.out.1 hrU' hrV.sv (by omega)).mono ?_
          rintro e w5 ⟨⟨M', rfl, hrU5, hM'l, hM'o, hM'v⟩, hO5⟩
          have HM' := Lib.hid (And.intro hM'l (And.intro hM'o hM'v))
          clear hM'l hM'o hM'v
          have hrV5 := hrV.only hO5 (by omega)
          have hrq5 := hrq.only hO5 (by omega)
          have hbw5 := hbw.trans (hO5.below hGuw)
          have Hqd : Hid (val ((L.drop i).take (m + 2 + 1)) / val Lv < 1000000000) := Nat.div_lt_of_lt_mul (by have := Hds.out.1; exact this)
          generalize hqd : val ((L.drop i).take (m + 2 + 1)) / val Lv = qd at *
          have HQd := Lib.hid hqd
          clear hqd
          generalize hqi : (qd : Int) = qi at *
          have HQi := Lib.hid hqi
          clear hqi
          have hqi0 : 0 ≤ qi := by have := HQi.out; omega
          have hqi1 : qi ≤ 999999999 := by have := HQi.out; have := Hqd.out; omega
          obtain ⟨z, hz, hz0, hzc⟩ := hrq5.num (i := i) (by rw [hrel.out.2.2.1]; exact hi)
          have hzf := hrq5.frozen i
          clear hrU hrU' hrV hrq
          go_wp2
          go_roundw
          case rel =>
            have hst := div_step hrel.out.2.1 (j := i) (n := m + 2) (M' := M') (Lq := Q) (by have := hrel.out.1; omega) HV.out.2.2.1 HV.out.2.1 hrel.out.2.2.2.2.2.1 HM'.out.2.2 HM'.out.1 (by rw [hrel.out.2.2.1]; exact hi) (hrel.out.2.2.2.2.1 i (by omega)) hrel.out.2.2.2.2.2.2
            rw [HQd.out] at hst
            refine ⟨i, _, Q.set i qd, by omega, rfl, hrU5.far (by show Gu ≠ Gq; omega) _, hrV5.far (by show Gv ≠ Gq; omega) _, hrq5.setNum i qd _ HQi.out.symm, hbw5.setCell (by show w.heap.size ≤ Gq; omega) _, ?_, ?_, ?_, ?_, ?_, hst.1, hst.2⟩
            · simp only [List.length_append, List.length_take, List.length_drop, HM'.out.1]
              have := hrel.out.1
              omega
            · rw [lo_append, lo_append]
              exact ⟨⟨lo_take hrel.out.2.1 _, HM'.out.2.1⟩, lo_drop hrel.out.2.1 _⟩
            · rw [List.length_set]; exact hrel.out.2.2.1
            · exact lo_set hrel.out.2.2.2.1 Hqd.out
            · intro j hj
              rw [getD_set_ne (by omega)]
              exact hrel.out.2.2.2.2.1 j (by omega)
          case measure => simp [intOf]
end Go.Proofs.YtbeocfiimminiaaDoor
