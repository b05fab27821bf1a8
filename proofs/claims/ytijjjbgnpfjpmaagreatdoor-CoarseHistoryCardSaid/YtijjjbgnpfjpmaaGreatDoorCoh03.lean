/-
  The zaf of package long's Div.
-/
import Derived.Test.YtijjjbgnpfjpmaaGreatDoorCoh01
import Derived.Test.YtijjjbgnpfjpmaaGreatDoorCoh02
import Derived.IntWalk
import Derived.Test.YtijjjbgnpfjpmaaGreatDoorChecked
import Derived.WalkKit
import Derived.Laws.EntriesVeiled
namespace Go.Proofs.YtijjjbgnpfjpmaaGreatDoor
open Go.RowKit
set_option linter.unusedVariables false
theorem digit_at (G off N1 N : Nat) (P M S : List Nat) (B : Option Addr) (c d m : Nat) (v : List Nat) (w : World) (lo hi : Nat) (hoff : P.length = off) (hN1 : N1 = m + 3) (hN : N = m + 2) (hv : Lo v) (hM : Lo M) (hvl : v.length = m + 2) (hMl : M.length = m + 3) (hm : m ≤ 8589934592)
    (hP : P.length ≤ 8589934592) (hc : m + 3 ≤ c) (hv1 : 1 ≤ v.getD (m + 1) 0) (hlt : val M < val v * 1000000000) (hr : Row w G 160 (cel .u32 (P ++ M ++ S))) (hB : SV w lo hi B (cel .u32 v)) (hG : G < lo ∨ hi ≤ G) :
    Calls Tryz.prog 248 #[.slice (some ⟨G, off, none⟩) N1 c, .slice B N d] w fun e w' => (∃ M', e = .returned (.int .u32 ((val M / val v : Nat) : Int)) ∧ Row w' G 160 (cel .u32 (P ++ M' ++ S)) ∧ M'.length = m + 3 ∧ Lo M' ∧ val M' = val M % val v) ∧ Only G w w' := by
  subst hoff
  subst hN1
  subst hN
  exact digit_list G P M S B c d m v w lo hi hv hM hvl hMl hm hP hc hv1 hlt hr hB hG
set_option maxRecDepth 100000 in
set_option maxHeartbeats 1000000 in
theorem div_n {w : World} {va vb : Value} {x y lo hi lo' hi' : Nat} (ha : IsN w lo hi va x) (hb : IsN w lo' hi' vb y) (hi1 : hi ≤ w.heap.size) (hi2 : hi' ≤ w.heap.size) (hx : (lim x).length ≤ 4294967296) (hy : (lim y).length ≤ 4294967296) (hy0 : 0 < y) :
    Calls Tryz.prog 224 #[va, vb] w fun e w' => (∃ q r, e = .returned (.tuple #[q, r]) ∧ IsN w' w.heap.size w'.heap.size q (x / y) ∧ IsN w' w.heap.size w'.heap.size r (x % y)) ∧ Below w.heap.size w w' := by
  have Ha := Lib.hid ha
  have Hb := Lib.hid hb
  obtain ⟨A, c, rfl, hac, hcm, hA⟩ := ha
  obtain ⟨B, d, rfl, hbd, hdm, hB⟩ := hb
  rcases Nat.lt_or_ge x y with hxy | hxy
  · have Hq : Hid (x / y = 0 ∧ x % y = x) := ⟨Nat.div_eq_of_lt hxy, Nat.mod_eq_of_lt hxy⟩
    have Hs : Hid (sgn x y = -1) := zdl hxy
    go_enter Tryz.func224, Tryz.ntmps224
    go_wp2_with fail
    refine (cmp_n Ha.out Hb.out).mono ?_
    rw [Hs.out]
    rintro e w1 ⟨rfl, n, rfl⟩
    go_wp2_with fail
    refine (copy_n (Ha.out.drewN n) hx).mono ?_
    rintro e w2 ⟨⟨v, rfl, hv⟩, hb2⟩
    go_wp2_with fail
    go_ret2
    refine ⟨⟨_, _, rfl, ?_, ?_⟩, ((Below.refl _ w).trans (below_drewN (Below.refl _ _) n)).trans hb2⟩
    · rw [Hq.out.1]; exact IsN.zero
    · rw [Hq.out.2]; exact hv
  · have Hs : Hid (0 ≤ sgn x y) := by unfold Hid sgn; split <;> (try split) <;> omega
    by_cases hb1 : (lim y).length = 1
    · obtain ⟨bb, ob, rfl, _, _, hcb⟩ := hB (zap (j := 0) og)
      obtain ⟨x0, hx0, hx00, hx01, hx0c⟩ := zaw (j := 0) (zat y) hcb og
      clear hcb
      rw [Nat.add_zero] at hx0c
      have hxy0 : x0 = (y : Int) := by
        rw [hx0.out]
        have h := zas y
        match hl : lim y, hb1 with
        | [z], _ => rw [hl] at h; simp [val] at h; simp [h]
      have Hxy0 := Lib.hid hxy0
      have hx01' : 1 ≤ x0 := og
      clear hxy0
      have Hb1 := Lib.hid hb1
      have hb1a : (lim y).length ≤ 1 := og
      have hb1b : 1 ≤ (lim y).length := og
      clear hb1
      go_enter Tryz.func224, Tryz.ntmps224
      go_wp2_with fail
      refine (cmp_n Ha.out Hb.out).mono ?_
      generalize sgn x y = sg at *
      have hs := Hs.out
      rintro e w1 ⟨rfl, n, rfl⟩
      go_wp2_with fail
      refine (short_n (Ha.out.drewN n) hi1 hx hx01' hx01).mono ?_
      rintro e w2 ⟨⟨v, rm, rfl, hrm0, hrm1, hrm, hv⟩, hb2⟩
      go_wp2_with fail
      refine (of_i _ _ hrm0 og).mono ?_
      rintro e w3 ⟨⟨v3, rfl, hv3⟩, hb3⟩
      go_wp2_with fail
      go_ret2
      have hy2 : x0.toNat = y := oh Hxy0
      rw [hrm.out, hy2] at hv3
      rw [hy2] at hv
      have hbw2 : Below w.heap.size w w2 := (below_drewN (Below.refl _ w) n).trans hb2
      have hz2 := hbw2.size
      have hz3 := hb3.size
      exact ⟨⟨_, _, rfl, (hv.below hb3 (Nat.le_refl _)).wide (Nat.le_refl _) hz3, hv3.wide hz2 (Nat.le_refl _)⟩, hbw2.trans (hb3.mono hz2)⟩
    · obtain ⟨m, hm⟩ : ∃ m, (lim y).length = m + 2 := by
        refine ⟨(lim y).length - 2, ?_⟩
        have : (lim y).length ≠ 0 := by rw [ne_eq, lim_nil_iff]; omega
        omega
      obtain ⟨k, hk⟩ : ∃ k, (lim x).length = m + 2 + k := ⟨(lim x).length - (m + 2), by have := zah hxy; omega⟩
      rw [hm] at hbd hy
      rw [hk] at hac hx
      have hbn : (((m : Int) + 2) == 1) = false := beq_eq_false_iff_ne.2 og
      obtain ⟨bb, ob, rfl, _, _, hcb⟩ := hB (zap (j := m + 1) og)
      obtain ⟨b1, hb1e, hb10, hb11, hb1c⟩ := zaw (j := m + 1) (zat y) hcb og
      clear hcb hb1
      have hb12 : 1 ≤ b1 := by have := top_pos (zat y) hm (by rw [zas]; exact lim_len_lt.1 og); have := hb1e.out; omega
      have hF := factor_facts (zat y) hm hb1e.out hb12 hb11
      have hF1 := hF.1
      have hF2 := hF.2.1
      have HF := Lib.hid hF.2.2
      clear hF
      have Hfx : Hid (val (lim x) * (1000000000 / (b1 + 1)).toNat < pw (m + 2 + k + 1)) := by
        have h1 := zfe x
        rw [hk] at h1
        rw [zas, Hid, zax, Nat.mul_comm 1000000000]
        exact Nat.lt_of_le_of_lt (Nat.mul_le_mul_left x (show (1000000000 / (b1 + 1)).toNat ≤ 1000000000 by omega)) (Nat.mul_lt_mul_of_pos_right h1 og)
      have Hk := Lib.hid hk
      have Hm := Lib.hid hm
      clear hk hm
      rw [Hk.out] at Ha ⊢
      rw [Hm.out] at Hb ⊢
      go_enter Tryz.func224, Tryz.ntmps224
      go_wp2_with fail
      refine (cmp_n Ha.out Hb.out).mono ?_
      generalize sgn x y = sg at *
      have hs := Hs.out
      rintro e w1 ⟨rfl, n, rfl⟩
      go_wp2_with fail
      have hF3 : 0 ≤ 1000000000 / (b1 + 1) := og
      rw [zas] at HF Hfx
      generalize hFe : 1000000000 / (b1 + 1) = F at *
      have HFe := Lib.hid hFe
      clear hFe
      refine (times_n (Ha.out.drewN n) hi1 (m + 2 + k + 1) og (by rw [Hk.out]; omega) og hF3 hF2 Hfx.out).mono ?_
      rintro e w2 ⟨⟨Gu, Lu, rfl, hGu, hrU, hLul, hLuo, hLuv⟩, hb2⟩
      have HLu := Lib.hid (And.intro hLul (And.intro hLuo hLuv))
      clear hLul hLuo hLuv
      have hbw2 : Below w.heap.size w w2 := (below_drewN (Below.refl _ w) n).trans hb2
      have hz2 := hbw2.size
      have hGu2 := hrU.lt
      go_wp2_with fail
      refine (times_n (Hb.out.below hbw2 hi2) (Nat.le_trans hi2 hz2) (m + 2) og (by rw [Hm.out]; omega) og hF3 hF2 HF.out).mono ?_
      rintro e w3 ⟨⟨Gv, Lv, rfl, hGv, hrV, hLvl, hLvo, hLvv⟩, hb3⟩
      have HLv := Lib.hid (And.intro hLvl (And.intro hLvo hLvv))
      clear hLvl hLvo hLvv
      have hrU3 := hrU.below hb3 hGu2
      clear hrU
      have hbw3 : Below w.heap.size w w3 := hbw2.trans (hb3.mono hz2)
      have hz3 := hbw3.size
      have hGv3 := hrV.lt
      go_wp2_with (at_make; refine zdd elN rfl _ _ rfl (k + 1) rfl rfl og og og ?_; intro Gq w4 hGq hrq hb4 hz4)
      have hGuw : w.heap.size ≤ Gu := hGu
      have hGqv : w3.heap.size ≤ Gq := oh hGq
      have hb4' : Below w.heap.size w w4 := hbw3.trans (hb4.mono og)
      have HV : Hid (val Lv = y * F.toNat ∧ 0 < val Lv ∧ val Lv ≤ pw (m + 2) ∧ 1 ≤ Lv.getD (m + 1) 0) := by
        have h1 := HLv.out.2.2
        have h2 : pw (m + 1) ≤ y := lim_len_lt.1 (by rw [Hm.out]; omega)
        have h3 : y * 1 ≤ y * F.toNat := Nat.mul_le_mul_left y og
        refine ⟨h1, by omega, ?_, top_pos HLv.out.2.1 HLv.out.1 og⟩
        have := zbz HLv.out.2.1
        rw [HLv.out.1] at this
        omega
      go_loopw [12] (fun j wr => ∃ (i : Nat) (L Q : List Nat), i ≤ k + 1 ∧ j = .int .i64 ((i : Int) - 1) ∧ Row wr Gu 160 (cel .u32 L) ∧ Row wr Gv 160 (cel .u32 Lv) ∧ Row wr Gq 160 (cel .u32 Q) ∧ Below w.heap.size w wr ∧
          Hid (L.length = m + 2 + k + 1 ∧ Lo L ∧ Q.length = k + 1 ∧ Lo Q ∧ (∀ j, j < i → Q.getD j 0 = 0) ∧ val (L.drop i) < val Lv ∧ val L + val Lv * val Q = x * F.toNat)) (fun j _ => (intOf j + 1).toNat)
      case atStart =>
        refine ⟨k + 1, Lu, _, Nat.le_refl _, int_eq og, hrU3.below hb4 og, hrV.below hb4 og, hrq, hb4', HLu.out.1, HLu.out.2.1, by simp, zbr _, ?_, ?_, ?_⟩
        · intro j _
          rw [List.getD_eq_getElem?_getD, List.getElem?_replicate]
          split <;> rfl
        · rw [HV.out.1]
          exact div_start HLu.out.1 HLu.out.2.2 (by have := zfe x; rw [Hk.out] at this; exact this) (lim_len_lt.1 (by rw [Hm.out]; omega)) og
        · rw [HLu.out.2.2, val_zeros (l := List.replicate (k + 1) 0) (fun x hx => (List.mem_replicate.1 hx).2), Nat.mul_zero, Nat.add_zero]
      case round =>
        clear hb1c hrU3 hrV hrq hb2 hb3 hb4 hb4'
        obtain ⟨i, L, Q, hi, rfl, hrU, hrV, hrq, hbw, hrel⟩ := hrel
        rcases i with _ | i
        · have hV0 : val L < val Lv := by have := hrel.out.2.2.2.2.2.1; rw [List.drop_zero] at this; exact this
          have hVL : val L + val Lv * val Q = x * F.toNat := hrel.out.2.2.2.2.2.2
          rw [HV.out.1] at hV0 hVL
          have he := div_end og hV0 hVL
          have Ht : Hid (val (L.take (m + 2)) = val L) := by
            have h1 := zbm L (m + 2) (by have := hrel.out.1; omega)
            rcases Nat.eq_zero_or_pos (val (L.drop (m + 2))) with h0 | h0
            · rw [h0, Nat.mul_zero, Nat.add_zero] at h1; exact h1.symm
            · have := Nat.mul_le_mul_left (pw (m + 2)) h0
              have h2 := HV.out.2.2.1
              have h3 := hrel.out.2.2.2.2.2.1
              rw [List.drop_zero] at h3
              omega
          have He := Lib.hid he
          clear hV0 hVL he
          go_wp2_with fail
          have hLt : IsL .u32 wr Gu (Gu + 1) (.slice (some ⟨Gu, 0, none⟩) (m + 2) (m + 2 + k + 1)) (L.take (m + 2)) :=
            ⟨_, _, by rw [List.length_take, Nat.min_eq_left (by have := hrel.out.1; omega)], by rw [List.length_take]; omega, by unfold maxLen; omega, by rw [zeg]; exact hrU.sv.take _⟩
          refine (trim_l hLt (zbk hrel.out.2.1 _)).mono ?_
          rintro e w5 ⟨⟨v5, rfl, hv5⟩, rfl⟩
          rw [Ht.out] at hv5
          have hGuL := hrU.lt
          go_wp2_with fail
          refine (short_n hv5 og (by have := lim_val_len (zbk hrel.out.2.1 (m + 2)); rw [Ht.out, List.length_take] at this; omega) hF1 hF2).mono ?_
          rintro e w6 ⟨⟨v6, r6, rfl, _, _, _, hv6⟩, hb6⟩
          rw [He.out.2] at hv6
          go_wp2_with fail
          have hrq6 := hrq.below hb6 hrq.lt
          have hz5 := hbw.size
          have hz6 := hb6.size
          have hLq : IsL .u32 w6 Gq (Gq + 1) (.slice (some ⟨Gq, 0, none⟩) (k + 1) (k + 1)) Q := ⟨_, _, by rw [hrel.out.2.2.1], by have := hrel.out.2.2.1; omega, by unfold maxLen; omega, hrq6.sv⟩
          refine (trim_l hLq hrel.out.2.2.2.1).mono ?_
          rintro e w7 ⟨⟨v7, rfl, hv7⟩, rfl⟩
          rw [He.out.1] at hv7
          have hGqL := hrq6.lt
          go_wp2_with fail
          go_ret2
          exact ⟨⟨_, _, rfl, hv7.wide og hGqL, hv6.wide hz5 (Nat.le_refl _)⟩, hbw.trans (hb6.mono hz5)⟩
        · have hds := div_split hrel.out.2.1 (j := i) (n := m + 2) (by have := hrel.out.1; omega) HV.out.2.2.1 hrel.out.2.2.2.2.2.1
          have Hds := Lib.hid hds
          clear hds
          rw [show (((i + 1 : Nat) : Int) - 1) = (i : Int) from by omega]
          have hrU' : Row wr Gu 160 (cel .u32 (L.take i ++ (L.drop i).take (m + 2 + 1) ++ L.drop (i + (m + 2) + 1))) := by
            have e : L.take i ++ (L.drop i).take (m + 2 + 1) ++ L.drop (i + (m + 2) + 1) = L := by
              rw [List.append_assoc, show i + (m + 2) + 1 = i + (m + 2 + 1) by omega, ← List.drop_drop, List.take_append_drop, List.take_append_drop]
            rw [e]
            exact hrU
          go_wp2_with fail
          refine (digit_at Gu i _ _ (L.take i) ((L.drop i).take (m + 2 + 1)) (L.drop (i + (m + 2) + 1)) _ _ _ m Lv wr Gv (Gv + 1) (by rw [List.length_take]; have := hrel.out.1; omega) og og HLv.out.2.1 (zbk (lo_drop hrel.out.2.1 _) _) HLv.out.1
            (by rw [List.length_take, List.length_drop]; have := hrel.out.1; omega) og (by rw [List.length_take]; omega) og HV.out.2.2.2 Hds.out.1 hrU' hrV.sv og).mono ?_
          rintro e w5 ⟨⟨M', rfl, hrU5, hM'l, hM'o, hM'v⟩, hO5⟩
          have HM' := Lib.hid (And.intro hM'l (And.intro hM'o hM'v))
          clear hM'l hM'o hM'v
          have hrV5 := hrV.only hO5 og
          have hrq5 := hrq.only hO5 og
          have hbw5 := hbw.trans (hO5.below hGuw)
          have Hqd : Hid (val ((L.drop i).take (m + 2 + 1)) / val Lv < 1000000000) := Nat.div_lt_of_lt_mul (by have := Hds.out.1; exact this)
          generalize hqd : val ((L.drop i).take (m + 2 + 1)) / val Lv = qd at *
          have HQd := Lib.hid hqd
          clear hqd
          generalize hqi : (qd : Int) = qi at *
          have HQi := Lib.hid hqi
          clear hqi
          have hqi0 : 0 ≤ qi := oh HQi
          have hqi1 : qi ≤ 999999999 := oh2 HQi Hqd
          obtain ⟨z, hz, hz0, hzc⟩ := hrq5.num (i := i) (by rw [hrel.out.2.2.1]; exact hi)
          have hzf := hrq5.frozen i
          clear hrU hrU' hrV hrq
          go_wp2
          go_roundw
          case rel =>
            have hst := div_step hrel.out.2.1 (j := i) (n := m + 2) (M' := M') (Lq := Q) (by have := hrel.out.1; omega) HV.out.2.2.1 HV.out.2.1 hrel.out.2.2.2.2.2.1 HM'.out.2.2 HM'.out.1 (by rw [hrel.out.2.2.1]; exact hi) (hrel.out.2.2.2.2.1 i og) hrel.out.2.2.2.2.2.2
            rw [HQd.out] at hst
            refine ⟨i, _, Q.set i qd, by omega, rfl, hrU5.far (by show Gu ≠ Gq; omega) _, hrV5.far (by show Gv ≠ Gq; omega) _, hrq5.setNum i qd _ HQi.out.symm, hbw5.setCell (by show w.heap.size ≤ Gq; omega) _, ?_, ?_, ?_, ?_, ?_, hst.1, hst.2⟩
            · simp only [List.length_append, List.length_take, List.length_drop, HM'.out.1]
              have := hrel.out.1
              omega
            · rw [lo_append, lo_append]
              exact ⟨⟨zbk hrel.out.2.1 _, HM'.out.2.1⟩, lo_drop hrel.out.2.1 _⟩
            · rw [List.length_set]; exact hrel.out.2.2.1
            · exact zbb hrel.out.2.2.2.1 Hqd.out
            · intro j hj
              rw [getD_set_ne og]
              exact hrel.out.2.2.2.2.1 j og
          case measure => simp [intOf]
def chk (l : List Nat) : Int := if 1024 < l.length then 4 else if l.any (fun x => decide (1000000000 ≤ x)) then 3 else if l.getLastD 1 = 0 then 3 else 0
theorem chk_long {l : List Nat} (h : 1024 < l.length) : chk l = 4 := by unfold chk; rw [if_pos h]
theorem chk_big {l : List Nat} (h : ¬ 1024 < l.length) {x : Nat} (hx : x ∈ l) (hb : 1000000000 ≤ x) : chk l = 3 := by
  unfold chk
  rw [if_neg h, if_pos]
  rw [List.any_eq_true]
  exact ⟨x, hx, by simpa using hb⟩
theorem chk_lo {l : List Nat} (h : ¬ 1024 < l.length) (hl : Lo l) : chk l = if l.getLastD 1 = 0 then 3 else 0 := by
  unfold chk
  rw [if_neg h, if_neg]
  rw [List.any_eq_true]
  rintro ⟨x, hx, hb⟩
  have := hl x hx
  simp at hb
  omega
theorem chk_ok {l : List Nat} (h : chk l = 0) : l.length ≤ 1024 ∧ Lo l ∧ l = lim (val l) := by
  unfold chk at h
  split at h
  · omega
  · split at h
    · omega
    · rename_i h1 h2
      split at h
      · omega
      · rename_i h3
        have hl : Lo l := by
          intro x hx
          rcases Nat.lt_or_ge x 1000000000 with h4 | h4
          · exact h4
          · exact absurd (List.any_eq_true.2 ⟨x, hx, by simpa using h4⟩) h2
        exact ⟨by omega, hl, (lim_val_of hl h3).symm⟩
theorem chk_lim {n : Nat} (h : (lim n).length ≤ 1024) : chk (lim n) = 0 := by
  rw [chk_lo og (zat n), if_neg (last_lim n)]
theorem last_getD {l : List Nat} (h : 0 < l.length) : l.getLastD 1 = l.getD (l.length - 1) 0 := by
  rw [List.getLastD_eq_getLast?, List.getLast?_eq_getElem?, List.getD_eq_getElem?_getD, List.getElem?_eq_getElem og]
  rfl
theorem getD_mem {l : List Nat} {k : Nat} (h : k < l.length) : l.getD k 0 ∈ l := by
  rw [List.getD_eq_getElem?_getD, List.getElem?_eq_getElem h]
  exact List.getElem_mem h
theorem lo_of_getD {l : List Nat} (h : ∀ j, j < l.length → l.getD j 0 < 1000000000) : Lo l := by
  intro x hx
  obtain ⟨j, hj, rfl⟩ := List.getElem_of_mem hx
  have := h j hj
  rw [List.getD_eq_getElem?_getD, List.getElem?_eq_getElem hj] at this
  exact this
set_option maxHeartbeats 400000 in
theorem zer {w : World} {va : Value} {l : List Nat} {lo hi : Nat} (ha : IsL .u32 w lo hi va l) :
    Calls Tryz.prog 197 #[va] w fun e w' => e = .returned (.int .i64 (chk l)) ∧ w = w' := by
  obtain ⟨A, c, rfl, hc, hcm, hA⟩ := ha
  by_cases hlong : 1024 < l.length
  · have H := Lib.hid (chk_long hlong)
    go_enter Tryz.func197, Tryz.ntmps197
    go_wp2
    go_ret
    exact ⟨zae H.out.symm, rfl⟩
  · go_enter Tryz.func197, Tryz.ntmps197
    go_wp2
    go_loop [10] (fun i => ∃ k : Nat, k ≤ l.length ∧ i = .int .i64 k ∧ Hid (∀ j, j < k → l.getD j 0 < 1000000000)) (fun i => l.length - (intOf i).toNat)
    case atStart => exact ⟨0, Nat.zero_le _, rfl, fun j hj => by omega⟩
    case round =>
      obtain ⟨k, hk, rfl, hall⟩ := hrel
      by_cases hlt : k < l.length
      · obtain ⟨b, off, rfl, _, _, hca⟩ := hA (zap (j := k) hlt)
        obtain ⟨x, hx, hx0, hck⟩ := zbo (j := k) hca hlt
        clear hca
        rcases Int.lt_or_le x 1000000000 with hx1 | hx1
        · go_wp2
          go_round
          case rel =>
            refine ⟨k + 1, hlt, by go_num, ?_⟩
            intro j hj
            rcases Nat.lt_or_ge j k with h | h
            · exact hall.out j h
            · obtain rfl : j = k := og
              have := hx.out
              omega
          case measure => simp [intOf]; omega
        · have H := Lib.hid (chk_big hlong (getD_mem hlt) (oh hx))
          go_wp2
          go_ret
          exact ⟨zae H.out.symm, rfl⟩
      · obtain rfl : k = l.length := og
        have hL := Lib.hid (chk_lo hlong (lo_of_getD hall.out))
        clear hall
        by_cases h0 : 0 < l.length
        · obtain ⟨b, off, rfl, _, _, hca⟩ := hA (zap (j := l.length - 1) og)
          obtain ⟨x, hx, hx0, hck⟩ := zbo (j := l.length - 1) hca og
          clear hca
          have hlast := Lib.hid (last_getD h0)
          by_cases hxz : x = 0
          · subst hxz
            have H : Hid (chk l = 3) := by unfold Hid; rw [hL.out, if_pos]; rw [hlast.out]; have := hx.out; omega
            go_wp2
            go_ret
            exact ⟨zae H.out.symm, rfl⟩
          · have hb : (x == 0) = false := beq_eq_false_iff_ne.2 hxz
            have H : Hid (chk l = 0) := by unfold Hid; rw [hL.out, if_neg]; rw [hlast.out]; have := hx.out; omega
            clear hxz
            go_wp2
            go_ret
            exact ⟨zae H.out.symm, rfl⟩
        · have e : l = [] := List.eq_nil_of_length_eq_zero og
          subst e
          have H : Hid (chk [] = 0) := by show chk [] = 0; decide
          go_wp2
          go_ret
          exact ⟨zae H.out.symm, rfl⟩
theorem IsL.alloc {k : IntKind} {w : World} {lo hi : Nat} {v : Value} {l : List Nat} (h : IsL k w lo hi v l) (hi1 : hi ≤ w.heap.size) (o : Obj) : IsL k (w.alloc o) lo hi v l :=
  h.below ((Below.refl _ _).alloc (Nat.le_refl _) o) hi1
theorem IsN.alloc {w : World} {lo hi : Nat} {v : Value} {n : Nat} (h : IsN w lo hi v n) (hi1 : hi ≤ w.heap.size) (o : Obj) : IsN (w.alloc o) lo hi v n := IsL.alloc h hi1 o
theorem IsL.isN {w : World} {lo hi : Nat} {v : Value} {l : List Nat} (h : IsL .u32 w lo hi v l) (hc : chk l = 0) : IsN w lo hi v (val l) := by
  unfold IsN
  rw [← (chk_ok hc).2.2]
  exact h
theorem chk_len {l : List Nat} (hc : chk l = 0) : (lim (val l)).length ≤ 1024 := by
  rw [← (chk_ok hc).2.2]
  exact (chk_ok hc).1
theorem eq_of_getD {a b : List Nat} (hl : a.length = b.length) (h : ∀ j, j < a.length → a.getD j 0 = b.getD j 0) : a = b := by
  apply List.ext_getElem hl
  intro j h1 h2
  have := h j h1
  rw [List.getD_eq_getElem?_getD, List.getD_eq_getElem?_getD, List.getElem?_eq_getElem h1, List.getElem?_eq_getElem h2] at this
  exact this
set_option maxHeartbeats 400000 in
theorem alike_l {w : World} {va vb : Value} {a b : List Nat} {lo hi lo' hi' : Nat} (ha : IsL .u32 w lo hi va a) (hb : IsL .u32 w lo' hi' vb b) :
    Calls Tryz.prog 111 #[va, vb] w fun e w' => e = .returned (.bool (decide (a = b))) ∧ Dr w w' := by
  have hal := ha.length_le
  have hbl := hb.length_le
  unfold maxLen at hal hbl
  obtain ⟨A, c, rfl, _, _, hA⟩ := ha
  obtain ⟨B, d, rfl, _, _, hB⟩ := hb
  by_cases hl : a.length = b.length
  · have h1 : a.length ≤ b.length := og
    have h2 : b.length ≤ a.length := og
    have H := Lib.hid hl
    clear hl
    go_enter Tryz.func111, Tryz.ntmps111
    go_wp2
    go_loopw [5] (fun i wr => ∃ k : Nat, k ≤ a.length ∧ i = .int .i64 (k : Int) ∧ Dr w wr ∧ Hid (∀ j, j < k → a.getD j 0 = b.getD j 0)) (fun i _ => a.length - (intOf i).toNat)
    case atStart => exact ⟨0, Nat.zero_le _, rfl, Dr.refl _, fun j hj => by omega⟩
    case round =>
      obtain ⟨k, hk, rfl, ⟨n, rfl⟩, hall⟩ := hrel
      rcases Nat.lt_or_ge k a.length with hlt | hge
      · obtain ⟨ba, oa, rfl, _, _, hca⟩ := hA (zap (j := k) hlt)
        obtain ⟨bb, ob, rfl, _, _, hcb⟩ := hB (zap (j := k) (Nat.le_trans hlt h1))
        obtain ⟨x, hx, hx0, hxc⟩ := zbo (j := k) hca hlt
        obtain ⟨y, hy, hy0, hyc⟩ := zbo (j := k) hcb og
        clear hca hcb
        by_cases hxy : x = y
        · have hb1 : (x != y) = false := by simp [hxy]
          have Hxy := Lib.hid hxy
          clear hxy
          go_wp2
          go_quiet (fail)
          go_wp2
          go_roundw
          case rel =>
            refine ⟨k + 1, by omega, by go_num, ⟨_, rfl⟩, fun j hj => ?_⟩
            rcases Nat.lt_or_ge j k with h | h
            · exact hall.out j h
            · obtain rfl : j = k := og
              have := hx.out
              have := hy.out
              have := Hxy.out
              omega
          case measure => simp [intOf]; omega
        · have hb1 : (x != y) = true := bne_iff_ne.2 hxy
          have Hr : Hid (decide (a = b) = false) := by
            simp only [Hid, decide_eq_false_iff_not]
            rintro rfl
            have := hx.out
            have := hy.out
            omega
          clear hxy
          go_wp2
          go_quiet (fail)
          go_wp2
          go_ret
          exact ⟨zcp Hr.out.symm, ((Dr.refl w).drewN n).drewN _⟩
      · obtain rfl : k = a.length := og
        have Hr : Hid (decide (a = b) = true) := by
          simp only [Hid, decide_eq_true_eq]
          exact eq_of_getD H.out hall.out
        go_wp2
        go_ret
        exact ⟨zcp Hr.out.symm, ⟨_, rfl⟩⟩
  · have hb1 : (((a.length : Int)) != (b.length : Int)) = true := by rw [bne_iff_ne]; omega
    have Hr : Hid (decide (a = b) = false) := by
      simp only [Hid, decide_eq_false_iff_not]
      rintro rfl
      exact hl rfl
    clear hl
    go_enter Tryz.func111, Tryz.ntmps111
    go_wp2
    go_ret
    exact ⟨zcp Hr.out.symm, Dr.refl _⟩
theorem bl_drew {w X : World} (h : Below w.heap.size w X) : Below w.heap.size w X.drew := zaa h (zam X)
theorem bl {p : Prop} (h : p := by (repeat (first | exact _root_.Go.RowKit.Below.refl _ _ | assumption | refine bl_drew ?_ | refine below_drewN ?_ _ | refine zaa ?_ (by assumption))); (first | done | fail)) : p := h
theorem uQ (w' : World) {w : World} {v : Value} {q : Rat} (h : Hid (IsQ w (Old w) v q)) (hb : Below w.heap.size w w' := by exact bl) : IsQ w' (Old w') v q := IsQ.stb.next h.out hb
theorem uF (w' : World) {w : World} {n : Nat} {k : IntKind} {v : Value} {l : List Nat} (h : Hid (IsK k w (New n w) v l)) (hb : Below w.heap.size w w' := by exact bl) : IsK k w' (New n w') v l := IsK.stb.fresh h.out hb
theorem uN (w' : World) {w : World} {v : Value} {n : Nat} (h : Hid (IsN w 0 w.heap.size v n)) (hb : Below w.heap.size w w' := by exact bl) : IsN w' 0 w'.heap.size v n := IsN.next h.out hb
theorem uR (w' : World) {w : World} {g : Nat} {t : TypeId} {xs : List Value} (h : Hid (Row w g t xs)) (hb : Below w.heap.size w w' := by exact bl) : Row w' g t xs := Row.next h.out hb
theorem uB (w' : World) {w w0 : World} (h : Hid (Below w.heap.size w w0)) (hb : Below w0.heap.size w0 w' := by exact bl) : Below w.heap.size w w' := zaa h.out hb
theorem uS (w' : World) {n : Nat} {w : World} (h : Hid (n ≤ w.heap.size)) (hb : Below w.heap.size w w' := by exact bl) : n ≤ w'.heap.size := size_step h.out hb
set_option maxHeartbeats 400000 in
theorem isOne_n {w : World} {va : Value} {x lo hi : Nat} (ha : IsN w lo hi va x) :
    Calls Tryz.prog 196 #[va] w fun e w' => e = .returned (.bool (decide (x = 1))) ∧ w = w' := by
  obtain ⟨A, c, rfl, hc, _, hA⟩ := ha
  generalize hl : lim x = l at *
  have Hl := Lib.hid hl; clear hl
  by_cases h1 : l.length = 1
  · obtain ⟨ba, oa, rfl, _, _, hca⟩ := hA (zap (j := 0) og)
    obtain ⟨y, hy, hy0, hyc⟩ := zbo (j := 0) hca og
    clear hca
    obtain ⟨z, rfl⟩ : ∃ z, l = [z] := by
      match l, h1 with
      | [z], _ => exact ⟨z, rfl⟩
    simp only [List.getD_cons_zero] at hy
    rw [Nat.add_zero] at hyc
    by_cases h2 : y = 1
    · have Hx : Hid (decide (x = 1) = true) := by
        have := hy.out
        obtain rfl : z = 1 := og
        have hv := zas x
        rw [Hl.out] at hv
        simp [val] at hv
        simp [Hid, hv]
      subst h2
      clear h1
      go_enter Tryz.func196, Tryz.ntmps196
      go_wp2
      go_ret
      exact ⟨zcp Hx.out.symm, rfl⟩
    · have Hx : Hid (decide (x = 1) = false) := by
        have := hy.out
        have hv := zas x
        rw [Hl.out] at hv
        simp [val] at hv
        simp [Hid]
        omega
      have hb : (y == 1) = false := by simpa using h2
      clear h1
      go_enter Tryz.func196, Tryz.ntmps196
      go_wp2
      go_ret
      exact ⟨zcp Hx.out.symm, rfl⟩
  · have hb : ((l.length : Int) == 1) = false := by simp; omega
    have Hx : Hid (decide (x = 1) = false) := by
      simp only [Hid, decide_eq_false_iff_not]
      rintro rfl
      have h := Hl.out
      rw [zea] at h
      subst h
      simp at h1
    go_enter Tryz.func196, Tryz.ntmps196
    go_wp2
    go_ret
    exact ⟨zcp Hx.out.symm, rfl⟩
end Go.Proofs.YtijjjbgnpfjpmaaGreatDoor
namespace Go.Proofs.YtijjjbgnpfjpmaaGreatDoor
theorem gcd_odd {u : Nat} (hu : u % 2 = 1) (j v : Nat) : Nat.gcd u (2 ^ j * v) = Nat.gcd u v := by
  have h : Nat.Coprime u (2 ^ j) := by
    apply Nat.Coprime.pow_right
    unfold Nat.Coprime
    rw [Nat.gcd_comm, Nat.gcd_rec, hu]
    rfl
  exact Nat.Coprime.gcd_mul_left_cancel_right v h.symm
theorem or_split {a b k m : Nat} (h : a ||| b = 2 ^ k * (2 * m + 1)) : ∃ a1 b1, a = 2 ^ k * a1 ∧ b = 2 ^ k * b1 ∧ (a1 % 2 = 1 ∨ b1 % 2 = 1) := by
  have h1 : (a % 2 ^ k) ||| (b % 2 ^ k) = 0 := by rw [← Nat.or_mod_two_pow, h]; exact Nat.mul_mod_right _ _
  have ha : a % 2 ^ k = 0 := by
    have := Nat.left_le_or (n := a % 2 ^ k) (m := b % 2 ^ k)
    omega
  have hb : b % 2 ^ k = 0 := by
    have := Nat.right_le_or (n := a % 2 ^ k) (m := b % 2 ^ k)
    omega
  refine ⟨a / 2 ^ k, b / 2 ^ k, ?_, ?_, ?_⟩
  · rw [Nat.mul_comm, Nat.div_mul_cancel (Nat.dvd_of_mod_eq_zero ha)]
  · rw [Nat.mul_comm, Nat.div_mul_cancel (Nat.dvd_of_mod_eq_zero hb)]
  · have h2 : (a ||| b).testBit k = true := by
      rw [h, Nat.testBit_eq_decide_div_mod_eq, Nat.mul_div_cancel_left _ (Nat.pow_pos og)]
      simp
    rw [Nat.testBit_or, Nat.testBit_eq_decide_div_mod_eq, Nat.testBit_eq_decide_div_mod_eq] at h2
    simpa using h2
theorem pow2_split {i k c d : Nat} (h : 2 ^ i * (2 * c + 1) = 2 ^ k * d) : (d % 2 = 1 → d = 2 * c + 1) ∧ ∃ j, d = 2 ^ j * (2 * c + 1) := by
  rcases Nat.lt_or_ge i k with hik | hik
  · exfalso
    obtain ⟨t, rfl⟩ : ∃ t, k = i + (t + 1) := ⟨k - i - 1, by omega⟩
    rw [Nat.pow_add, Nat.mul_assoc] at h
    have := Nat.eq_of_mul_eq_mul_left (Nat.pow_pos og) h
    rw [Nat.pow_succ] at this
    have e : 2 ^ t * 2 * d = 2 * (2 ^ t * d) := by rw [Nat.mul_comm (2 ^ t) 2, Nat.mul_assoc]
    omega
  · obtain ⟨t, rfl⟩ : ∃ t, i = k + t := ⟨i - k, by omega⟩
    rw [Nat.pow_add, Nat.mul_assoc] at h
    have hd := (Nat.eq_of_mul_eq_mul_left (Nat.pow_pos og) h).symm
    refine ⟨fun ho => ?_, t, hd⟩
    rcases t with _ | t
    · rw [hd]; simp
    · rw [hd, Nat.pow_succ, Nat.mul_comm (2 ^ t) 2, Nat.mul_assoc] at ho
      omega
theorem bin_start {a b k m i c : Nat} (h : a ||| b = 2 ^ k * (2 * m + 1)) (ha : a = 2 ^ i * (2 * c + 1)) : Nat.gcd a b = 2 ^ k * Nat.gcd (2 * c + 1) b := by
  obtain ⟨a1, b1, e1, e2, ho⟩ := or_split h
  have hodd : (2 * c + 1) % 2 = 1 := og
  have hs := pow2_split (ha.symm.trans e1)
  rw [e1, e2, Nat.gcd_mul_left, gcd_odd hodd]
  congr 1
  rcases ho with h1 | h1
  · rw [hs.1 h1]
  · obtain ⟨j, hj⟩ := hs.2
    rw [hj, Nat.gcd_comm, gcd_odd h1, Nat.gcd_comm]
theorem bin_step {A B j n G : Nat} (hA : A % 2 = 1) (hB : B = 2 ^ j * (2 * n + 1)) (hG : Nat.gcd A B = G) :
    (2 * n + 1 < A → Nat.gcd (2 * n + 1) (A - (2 * n + 1)) = G) ∧ (A ≤ 2 * n + 1 → Nat.gcd A (2 * n + 1 - A) = G) := by
  rw [hB, gcd_odd hA] at hG
  refine ⟨fun h => ?_, fun h => ?_⟩
  · rw [Nat.gcd_sub_self_right og, Nat.gcd_comm]; exact hG
  · rw [Nat.gcd_sub_self_right h]; exact hG
theorem shift_odd {x k m : Nat} (h : x = 2 ^ k * (2 * m + 1)) : x / 2 ^ k = 2 * m + 1 := by rw [h, Nat.mul_div_cancel_left _ (Nat.pow_pos og)]
theorem odd_le {x k m : Nat} (h : x = 2 ^ k * (2 * m + 1)) : 2 * m + 1 ≤ x := by
  rw [h]
  exact Nat.le_mul_of_pos_left _ (Nat.pow_pos og)
end Go.Proofs.YtijjjbgnpfjpmaaGreatDoor
namespace Go.Proofs.YtijjjbgnpfjpmaaGreatDoor
open Go.RowKit
set_option linter.unusedVariables false
theorem shr_cast {x k m : Nat} (h : x = 2 ^ k * (2 * m + 1)) : (x : Int) / 2 ^ k = ((2 * m + 1 : Nat) : Int) := by
  have := shift_odd h
  rw [← this]
  simp
set_option maxHeartbeats 1000000 in
theorem binary_pos (a b : Nat) (w : World) (hB : Bru w) (ha : 1 ≤ a) (hb : 1 ≤ b) (ha9 : a < 18446744073709551616) (hb9 : b < 18446744073709551616) :
    Calls Tryz.prog 198 #[.int .u64 (a : Int), .int .u64 (b : Int)] w fun e w' => e = .returned (.int .u64 (Nat.gcd a b : Nat)) ∧ w = w' := by
  have h1 : ((a : Int) == 0) = false := beq_eq_false_iff_ne.2 og
  have h2 : ((b : Int) == 0) = false := beq_eq_false_iff_ne.2 og
  have HB := Lib.hid hB; clear hB
  have hor := Lib.hid (bits_or_u64_nat a b ha9 hb9)
  have hle : Hid (a ||| b < 18446744073709551616 ∧ a ||| b ≠ 0) := ⟨Nat.or_lt_two_pow (n := 64) og og, by have := Nat.left_le_or (n := a) (m := b); omega⟩
  have hgl : Hid (Nat.gcd a b ≤ a) := Nat.le_of_dvd og (Nat.gcd_dvd_left a b)
  go_enter Tryz.func198, Tryz.ntmps198
  go_wp2_with fail
  rw [hor.out]
  obtain ⟨k, m, hk, hkm, hc⟩ := tz_n (a ||| b) w HB.out hle.out.2 hle.out.1
  have Hab := Lib.hid hkm; clear hkm
  refine hc.mono ?_
  clear hc
  rintro e w1 ⟨rfl, rfl⟩
  go_wp2_with fail
  obtain ⟨k2, m2, hk2, hkm2, hc2⟩ := tz_n a w HB.out og ha9
  have Hkm2 := Lib.hid hkm2
  have hsh := Lib.hid (shr_cast hkm2)
  have hol := odd_le hkm2
  clear hkm2
  refine hc2.mono ?_
  clear hc2
  rintro e w1 ⟨rfl, rfl⟩
  go_wp2_with fail
  rw [hsh.out]
  have hCo : (2 * m2 + 1) % 2 = 1 := og
  have HCo := Lib.hid hCo
  have hst := Lib.hid (bin_start Hab.out Hkm2.out)
  clear hCo Hkm2 Hab
  generalize hC : 2 * m2 + 1 = C at *
  have HC := Lib.hid hC
  have hC1 : 1 ≤ C := og
  clear hC
  go_loop [0, 1] (fun s0 s1 => ∃ (A B : Nat), s0 = .int .u64 (A : Int) ∧ s1 = .int .u64 (B : Int) ∧ 1 ≤ A ∧ A < 18446744073709551616 ∧ B < 18446744073709551616 ∧ Hid (A % 2 = 1 ∧ Nat.gcd A B = Nat.gcd C b)) (fun s0 s1 => (intOf s0).toNat + (intOf s1).toNat)
  case atStart => exact ⟨C, b, rfl, rfl, by omega, by omega, hb9, HCo.out, rfl⟩
  case round =>
    obtain ⟨A, B, rfl, rfl, hA1, hA9, hB9, hrel⟩ := hrel
    rcases Nat.eq_zero_or_pos B with h0 | h0
    · subst h0
      have hG : Hid (A = Nat.gcd C b) := by
        have := hrel.out.2
        rw [Nat.gcd_zero_right] at this
        exact this
      have hfin : Hid (IntKind.u64.wrap ((A : Int) * 2 ^ k) = ((Nat.gcd a b : Nat) : Int)) := by
        unfold Hid
        have e1 := hst.out
        rw [← hG.out, Nat.mul_comm] at e1
        have e2 : ((A : Int) * 2 ^ k) = ((A * 2 ^ k : Nat) : Int) := by simp
        rw [e2, ← e1, IntKind.wrap_u64]
        have := hgl.out
        omega
      go_wp2
      go_ret
      exact ⟨zae hfin.out, rfl⟩
    · have hne : ((B : Int) != 0) = true := by rw [bne_iff_ne]; omega
      go_wp2_with fail
      obtain ⟨j, n, hj, hjn, hc3⟩ := tz_n B w HB.out og hB9
      have hsh2 := shr_cast hjn
      have hol2 := odd_le hjn
      have Hst := Lib.hid (bin_step hrel.out.1 hjn hrel.out.2)
      have Hsh2 := Lib.hid hsh2
      clear hsh2 hjn
      refine hc3.mono ?_
      clear hc3
      rintro e w1 ⟨rfl, rfl⟩
      have hsh3 := Hsh2.out
      generalize hD : 2 * n + 1 = D at *
      have HD := Lib.hid hD
      clear hD
      have hD1 : 1 ≤ D ∧ D % 2 = 1 := oh HD
      obtain ⟨hD1, hD2⟩ := hD1
      have HD2 := Lib.hid hD2
      clear hD2
      rcases Nat.lt_or_ge D A with hlt | hge
      · go_wp2
        go_round
        case rel => exact ⟨D, A - D, rfl, by go_num, by omega, by omega, by omega, HD2.out, Hst.out.1 hlt⟩
        case measure => simp [intOf]; omega
      · go_wp2
        go_round
        case rel => exact ⟨A, D - A, rfl, by go_num, hA1, hA9, by omega, hrel.out.1, Hst.out.2 hge⟩
        case measure => simp [intOf]; omega
theorem binary_n (a b : Nat) (w : World) (hB : Bru w) (ha9 : a < 18446744073709551616) (hb9 : b < 18446744073709551616) :
    Calls Tryz.prog 198 #[.int .u64 (a : Int), .int .u64 (b : Int)] w fun e w' => e = .returned (.int .u64 (Nat.gcd a b : Nat)) ∧ w = w' := by
  rcases Nat.eq_zero_or_pos a with h0 | h0
  · subst h0
    have H := Lib.hid (Nat.gcd_zero_left b)
    clear hB
    go_enter Tryz.func198, Tryz.ntmps198
    go_wp2
    go_ret
    exact ⟨zae (by rw [H.out]), rfl⟩
  · rcases Nat.eq_zero_or_pos b with h1 | h1
    · subst h1
      have H := Lib.hid (Nat.gcd_zero_right a)
      have hne : ((a : Int) == 0) = false := beq_eq_false_iff_ne.2 og
      clear hB
      go_enter Tryz.func198, Tryz.ntmps198
      go_wp2
      go_ret
      exact ⟨zae (by rw [H.out]), rfl⟩
    · exact binary_pos a b w hB h0 h1 ha9 hb9
set_option maxHeartbeats 400000 in
theorem word_n {w : World} {va : Value} {x lo hi : Nat} (ha : IsN w lo hi va x) (hx : (lim x).length ≤ 2) :
    Calls Tryz.prog 199 #[va] w fun e w' => e = .returned (.int .u64 (x : Int)) ∧ w = w' := by
  obtain ⟨A, c, rfl, _, _, hA⟩ := ha
  generalize hl : lim x = l at *
  have Hl : Hid (Lo l ∧ val l = x) := by rw [Hid, ← hl]; exact ⟨zat x, zas x⟩
  clear hl
  have hdl : Hid (∀ k, 1 ≤ k → val (l.drop k) ≤ 999999999) := by
    intro k hk
    have h := zbz (lo_drop Hl.out.1 k)
    have h2 : pw (l.drop k).length ≤ pw 1 := pw_mono (by rw [List.length_drop]; omega)
    rw [pw_one] at h2
    omega
  go_enter Tryz.func199, Tryz.ntmps199
  go_wp2
  go_loop [3, 4] (fun n i => ∃ (k m : Nat), k ≤ l.length ∧ n = .int .u64 (m : Int) ∧ i = .int .i64 ((k : Int) - 1) ∧ Hid (m = val (l.drop k))) (fun _ i => ((intOf i) + 1).toNat)
  case atStart => exact ⟨l.length, 0, Nat.le_refl _, rfl, rfl, by rw [Hid, List.drop_length]; rfl⟩
  case round =>
    obtain ⟨k, m, hk, rfl, rfl, hm⟩ := hrel
    rcases k with _ | k
    · have hfin : Hid (m = x) := by have := hm.out; rw [List.drop_zero, Hl.out.2] at this; exact this
      go_wp2
      go_ret
      exact ⟨zae (by rw [hfin.out]), rfl⟩
    · have hk1 : ((k + 1 : Nat) : Int) - 1 = (k : Int) := og
      rw [hk1]
      clear hk1
      obtain ⟨b, off, rfl, _, _, hca⟩ := hA (zap (j := k) hk)
      obtain ⟨y, hy, hy0, hy1, hck⟩ := zaw (j := k) Hl.out.1 hca hk
      clear hca
      have hm9 : m ≤ 999999999 := by have := hm.out; have := hdl.out (k + 1) og; omega
      go_wp2
      go_round
      case rel =>
        refine ⟨k, m * 1000000000 + y.toNat, by omega, by go_num, by go_num, ?_⟩
        have h1 := zda (l := l) (k := k) hk
        have := hm.out
        have := hy.out
        unfold Hid
        omega
      case measure => simp [intOf]
end Go.Proofs.YtijjjbgnpfjpmaaGreatDoor
namespace Go.Proofs.YtijjjbgnpfjpmaaGreatDoor
theorem zbq {u v k : Int} (hk : 0 ≤ k) (h : u ≤ v) : k * u ≤ k * v := Int.mul_le_mul_of_nonneg_left h hk
structure LI (A0 B0 : Nat) (a0 b0 a b w x y z : Int) : Prop where
  ea : a = w * a0 + x * b0
  eb : b = y * a0 + z * b0
  pat : (1 ≤ w ∧ x ≤ 0 ∧ y ≤ 0 ∧ 1 ≤ z ∧ w * z - x * y = 1) ∨ (w ≤ 0 ∧ 1 ≤ x ∧ 1 ≤ y ∧ z ≤ -1 ∧ w * z - x * y = -1)
  aw : 0 ≤ a + w
  ax : 0 ≤ a + x
  by_ : 0 ≤ b + y
  bz : 0 ≤ b + z
  num : ∃ A B : Nat, (A : Int) = w * A0 + x * B0 ∧ (B : Int) = y * A0 + z * B0 ∧ B ≤ A ∧ Nat.gcd A B = Nat.gcd A0 B0 ∧ (x ≠ 0 → B < A ∧ A ≤ B0) ∧ (x = 0 → A = A0 ∧ B = B0)
theorem LI.start {A0 B0 : Nat} {a0 b0 : Int} (ha : 0 ≤ a0) (hb : 0 ≤ b0) (h : B0 ≤ A0) : LI A0 B0 a0 b0 a0 b0 1 0 0 1 :=
  ⟨by omega, by omega, .inl ⟨by omega, by omega, by omega, by omega, by omega⟩, by omega, by omega, by omega, by omega, ⟨A0, B0, by omega, by omega, h, rfl, fun h => absurd rfl h, fun _ => ⟨rfl, rfl⟩⟩⟩
section
variable {A0 B0 : Nat} {a0 b0 a b w x y z : Int}
theorem LI.inv (h : LI A0 B0 a0 b0 a b w x y z) : 0 ≤ a ∧ 0 ≤ b ∧
    ((1 ≤ w ∧ x ≤ 0 ∧ y ≤ 0 ∧ 1 ≤ z ∧ a0 = z * a - x * b ∧ b0 = w * b - y * a) ∨ (w ≤ 0 ∧ 1 ≤ x ∧ 1 ≤ y ∧ z ≤ 0 ∧ a0 = x * b - z * a ∧ b0 = y * a - w * b)) := by
  have h1 := h.aw; have h2 := h.ax; have h3 := h.by_; have h4 := h.bz; have e1 := h.ea; have e2 := h.eb
  rcases h.pat with ⟨p1, p2, p3, p4, p5⟩ | ⟨p1, p2, p3, p4, p5⟩
  · refine ⟨by omega, by omega, .inl ⟨p1, p2, p3, p4, ?_, ?_⟩⟩
    · have : z * a - x * b = (w * z - x * y) * a0 := by rw [e1, e2]; grind
      rw [this, p5]; omega
    · have : w * b - y * a = (w * z - x * y) * b0 := by rw [e1, e2]; grind
      rw [this, p5]; omega
  · refine ⟨by omega, by omega, .inr ⟨p1, p2, p3, by omega, ?_, ?_⟩⟩
    · have : x * b - z * a = -(w * z - x * y) * a0 := by rw [e1, e2]; grind
      rw [this, p5]; omega
    · have : y * a - w * b = -(w * z - x * y) * b0 := by rw [e1, e2]; grind
      rw [this, p5]; omega
theorem LI.bounds (h : LI A0 B0 a0 b0 a b w x y z) (ha0 : a0 ≤ 999999999999999999) (hb0 : b0 ≤ 999999999999999999) : 0 ≤ a ∧ a ≤ 999999999999999999 ∧ 0 ≤ b ∧ b ≤ 999999999999999999 := by
  obtain ⟨ha, hb, hp⟩ := h.inv
  rcases hp with ⟨p1, p2, p3, p4, e1, e2⟩ | ⟨p1, p2, p3, p4, e1, e2⟩
  · have h1 := Int.mul_le_mul_of_nonneg_right p4 ha
    have h2 := Int.mul_le_mul_of_nonneg_right p1 hb
    have h3 := Int.mul_nonneg (show 0 ≤ -x by omega) hb
    have h4 := Int.mul_nonneg (show 0 ≤ -y by omega) ha
    rw [Int.neg_mul] at h3 h4
    omega
  · have h1 := Int.mul_le_mul_of_nonneg_right p2 hb
    have h2 := Int.mul_le_mul_of_nonneg_right p3 ha
    have h3 := Int.mul_nonneg (show 0 ≤ -z by omega) ha
    have h4 := Int.mul_nonneg (show 0 ≤ -w by omega) hb
    rw [Int.neg_mul] at h3 h4
    omega
theorem LI.fits (h : LI A0 B0 a0 b0 a b w x y z) (ha0 : a0 ≤ 999999999999999999) (hb0 : b0 ≤ 999999999999999999) (hw : -999999999 ≤ w ∧ w ≤ 999999999) (hx : -999999999 ≤ x ∧ x ≤ 999999999) (hy : -999999999 ≤ y ∧ y ≤ 999999999) (hz : -999999999 ≤ z ∧ z ≤ 999999999)
    {q : Int} (hq0 : 0 ≤ q) (hq1 : q ≤ a + w) (hq2 : q ≤ a + x) (hq3 : q * (b + y) ≤ a + w) :
    -2000000000000000000 ≤ q * y ∧ q * y ≤ 2000000000000000000 ∧ -2000000000000000000 ≤ q * z ∧ q * z ≤ 2000000000000000000 ∧ 0 ≤ q * b ∧ q * b ≤ 4000000000000000000 := by
  obtain ⟨hab, _⟩ := h.bounds ha0 hb0
  have hbnd := h.bounds ha0 hb0
  obtain ⟨ha, hb, hp⟩ := h.inv
  have hqb := Int.mul_nonneg hq0 hb
  rw [Int.mul_add] at hq3
  have lim : ∀ {u v : Int}, 0 ≤ u → u ≤ 999999999 → 0 ≤ v → v ≤ 999999999 → u * v ≤ 999999998000000001 := by
    intro u v h1 h2 h3 h4
    have := Int.mul_le_mul h2 h4 h3 (by omega : (0 : Int) ≤ 999999999)
    omega
  rcases hp with ⟨p1, p2, p3, p4, e1, e2⟩ | ⟨p1, p2, p3, p4, e1, e2⟩
  ·
    have h1 := Int.mul_le_mul_of_nonneg_right hq1 (show 0 ≤ -y by omega)
    have h2 := Int.mul_nonneg hq0 (show 0 ≤ -y by omega)
    have h3 := Int.mul_le_mul_of_nonneg_right hq2 (show 0 ≤ z by omega)
    have h4 := Int.mul_nonneg hq0 (show 0 ≤ z by omega)
    have h5 := lim (u := w) (v := -y) og og og og
    have h6 := Int.mul_nonneg (show 0 ≤ w by omega) hb
    have h7 := Int.mul_nonneg (show 0 ≤ -x by omega) hb
    have h8 := Int.mul_nonneg (show 0 ≤ -x by omega) (show 0 ≤ z by omega)
    simp only [Int.add_mul, Int.mul_neg, Int.neg_mul] at h1 h2 h3 h5 h7 h8
    rw [Int.mul_comm a y] at h1
    rw [Int.mul_comm a z] at h3
    omega
  ·
    have h1 := Int.mul_le_mul_of_nonneg_right hq1 (show 0 ≤ y by omega)
    have h2 := Int.mul_nonneg hq0 (show 0 ≤ y by omega)
    have h3 := Int.mul_le_mul_of_nonneg_right hq2 (show 0 ≤ -z by omega)
    have h4 := Int.mul_nonneg hq0 (show 0 ≤ -z by omega)
    have h5 := lim (u := x) (v := -z) og og og og
    have h6 := Int.mul_nonneg (show 0 ≤ x by omega) hb
    have h7 := Int.mul_nonneg (show 0 ≤ -w by omega) hb
    have h8 := Int.mul_nonneg (show 0 ≤ -w by omega) (show 0 ≤ y by omega)
    simp only [Int.add_mul, Int.mul_neg, Int.neg_mul] at h1 h3 h4 h5 h7 h8
    rw [Int.mul_comm a y] at h1
    rw [Int.mul_comm a z] at h3
    omega
theorem LI.exact (h : LI A0 B0 a0 b0 a b w x y z) {S : Nat} (hS : 0 < S) (hA : a0 = (A0 / S : Nat)) (hB : b0 = (B0 / S : Nat)) {q : Int} (hy : 0 < b + y) (hz : 0 < b + z) (hq1 : q = (a + w) / (b + y)) (hq2 : q = (a + x) / (b + z))
    {A B : Nat} (eA : (A : Int) = w * A0 + x * B0) (eB : (B : Int) = y * A0 + z * B0) : 0 < B ∧ 0 ≤ q ∧ q * B ≤ A ∧ (A : Int) < (q + 1) * B := by
  have hq0 : 0 ≤ q := by rw [hq1]; exact Int.ediv_nonneg h.aw og
  have f1 : q * (b + y) ≤ a + w := by rw [hq1]; exact Int.ediv_mul_le _ og
  have f2 : q * (b + z) ≤ a + x := by rw [hq2]; exact Int.ediv_mul_le _ og
  have f3 : a + w < (q + 1) * (b + y) := by rw [hq1]; exact Int.lt_ediv_add_one_mul_self _ og
  have f4 : a + x < (q + 1) * (b + z) := by rw [hq2]; exact Int.lt_ediv_add_one_mul_self _ og
  have hS' : (0 : Int) < S := og
  have lA : a0 * S ≤ A0 := by rw [hA]; have := Nat.div_mul_le_self A0 S; exact_mod_cast this
  have lB : b0 * S ≤ B0 := by rw [hB]; have := Nat.div_mul_le_self B0 S; exact_mod_cast this
  have uA : (A0 : Int) < (a0 + 1) * S := by rw [hA]; have := Nat.lt_div_mul_add (a := A0) hS; rw [Int.add_mul, Int.one_mul]; exact_mod_cast this
  have uB : (B0 : Int) < (b0 + 1) * S := by rw [hB]; have := Nat.lt_div_mul_add (a := B0) hS; rw [Int.add_mul, Int.one_mul]; exact_mod_cast this
  have key : ((a + x) * S ≤ A ∧ (A : Int) < (a + w) * S ∧ (b + y) * S ≤ B ∧ (B : Int) < (b + z) * S) ∨ ((a + w) * S ≤ A ∧ (A : Int) < (a + x) * S ∧ (b + z) * S ≤ B ∧ (B : Int) < (b + y) * S) := by
    rw [eA, eB, h.ea, h.eb]
    rcases h.pat with ⟨p1, p2, p3, p4, _⟩ | ⟨p1, p2, p3, p4, _⟩
    · left
      have g1 := zbq (show 0 ≤ w by omega) lA
      have g2 := zbq (show 0 ≤ -x by omega) (Int.le_of_lt uB)
      have g3 := zbq (show 0 ≤ w - 1 by omega) (Int.le_of_lt uA)
      have g4 := zbq (show 0 ≤ -x by omega) lB
      have g5 := zbq (show 0 ≤ -y by omega) (Int.le_of_lt uA)
      have g6 := zbq (show 0 ≤ z by omega) lB
      have g7 := zbq (show 0 ≤ z - 1 by omega) (Int.le_of_lt uB)
      have g8 := zbq (show 0 ≤ -y by omega) lA
      refine ⟨by grind, by grind, by grind, by grind⟩
    · right
      have g1 := zbq (show 0 ≤ -w by omega) (Int.le_of_lt uA)
      have g2 := zbq (show 0 ≤ x by omega) lB
      have g3 := zbq (show 0 ≤ -w by omega) lA
      have g4 := zbq (show 0 ≤ x - 1 by omega) (Int.le_of_lt uB)
      have g5 := zbq (show 0 ≤ y by omega) lA
      have g6 := zbq (show 0 ≤ -z by omega) (Int.le_of_lt uB)
      have g7 := zbq (show 0 ≤ y - 1 by omega) (Int.le_of_lt uA)
      have g8 := zbq (show 0 ≤ -z by omega) lB
      refine ⟨by grind, by grind, by grind, by grind⟩
  rcases key with ⟨k1, k2, k3, k4⟩ | ⟨k1, k2, k3, k4⟩
  · have hBp : (0 : Int) < B := Int.lt_of_lt_of_le (Int.mul_pos hy hS') k3
    have m1 := zbq hq0 (Int.le_of_lt k4)
    have m2 := Int.mul_le_mul_of_nonneg_right f2 (Int.le_of_lt hS')
    have m3 := zbq (show 0 ≤ q + 1 by omega) k3
    have m4 := Int.mul_le_mul_of_nonneg_right (Int.le_of_lt f3) (Int.le_of_lt hS')
    refine ⟨by omega, hq0, by grind, by grind⟩
  · have hBp : (0 : Int) < B := Int.lt_of_lt_of_le (Int.mul_pos hz hS') k3
    have m1 := zbq hq0 (Int.le_of_lt k4)
    have m2 := Int.mul_le_mul_of_nonneg_right f1 (Int.le_of_lt hS')
    have m3 := zbq (show 0 ≤ q + 1 by omega) k3
    have m4 := Int.mul_le_mul_of_nonneg_right (Int.le_of_lt f4) (Int.le_of_lt hS')
    refine ⟨by omega, hq0, by grind, by grind⟩
theorem LI.step (h : LI A0 B0 a0 b0 a b w x y z) {S : Nat} (hS : 0 < S) (hA : a0 = (A0 / S : Nat)) (hB : b0 = (B0 / S : Nat)) {q : Int} (hy : 0 < b + y) (hz : 0 < b + z) (hq1 : q = (a + w) / (b + y)) (hq2 : q = (a + x) / (b + z)) :
    LI A0 B0 a0 b0 b (a - q * b) y z (w - q * y) (x - q * z) := by
  obtain ⟨A, B, eA, eB, hle, hg, hx1, hx0⟩ := h.num
  obtain ⟨hBp, hq0, k1, k2⟩ := h.exact hS hA hB hy hz hq1 hq2 eA eB
  have hq : 1 ≤ q := by
    rcases Int.lt_or_le q 1 with h0 | h0
    · have : q = 0 := og
      subst this
      omega
    · exact h0
  obtain ⟨qn, rfl⟩ := Int.eq_ofNat_of_zero_le hq0
  have k1' : qn * B ≤ A := by exact_mod_cast k1
  have k2' : A < (qn + 1) * B := by exact_mod_cast k2
  have f1 : (qn : Int) * (b + y) ≤ a + w := by rw [hq1]; exact Int.ediv_mul_le _ og
  have f2 : (qn : Int) * (b + z) ≤ a + x := by rw [hq2]; exact Int.ediv_mul_le _ og
  have hqn : A / B = qn := by
    apply Nat.div_eq_of_lt_le
    · exact k1'
    · exact k2'
  have hmod : A % B = A - qn * B := by rw [Nat.mod_eq_sub_mul_div, hqn, Nat.mul_comm]
  refine ⟨h.eb, ?_, ?_, by omega, by omega, ?_, ?_, ⟨B, A % B, eB, ?_, Nat.le_of_lt (Nat.mod_lt _ hBp), ?_, fun _ => ⟨Nat.mod_lt _ hBp, ?_⟩, fun h0 => ?_⟩⟩
  · rw [h.ea, h.eb]; grind
  · rcases h.pat with ⟨p1, p2, p3, p4, p5⟩ | ⟨p1, p2, p3, p4, p5⟩
    · have h1 := Int.mul_nonneg hq0 (show 0 ≤ -y by omega)
      have h2 := Int.mul_le_mul_of_nonneg_right hq (show 0 ≤ z by omega)
      rw [Int.mul_neg] at h1
      exact .inr ⟨p3, p4, by omega, by omega, by grind⟩
    · have h1 := Int.mul_nonneg hq0 (show 0 ≤ -z by omega)
      have h2 := Int.mul_le_mul_of_nonneg_right hq (show 0 ≤ y by omega)
      rw [Int.mul_neg] at h1
      exact .inl ⟨p3, by omega, by omega, by omega, by grind⟩
  · rw [Int.mul_add] at f1; omega
  · rw [Int.mul_add] at f2; omega
  · rw [hmod, Int.ofNat_sub k1', Int.natCast_mul, eA, eB]; grind
  · rw [← hg, Nat.gcd_comm A B, Nat.gcd_rec B A, Nat.gcd_comm]
  · rcases Int.lt_trichotomy x 0 with h1 | h1 | h1
    · have := hx1 og; omega
    · have := hx0 h1; omega
    · have := hx1 og; omega
  · rcases h.pat with ⟨p1, p2, p3, p4, p5⟩ | ⟨p1, p2, p3, p4, p5⟩ <;> omega
end
end Go.Proofs.YtijjjbgnpfjpmaaGreatDoor
namespace Go.Proofs.YtijjjbgnpfjpmaaGreatDoor
open Go.RowKit
set_option linter.unusedVariables false
theorem max4 (P : Program) (w : World) (k : IntKind) (ts : Array TypeId) (t : TypeId) (x y z u : Int) : ∃ M, (Builtin.max_ ts t #[.int k x, .int k y, .int k z, .int k u]).run P w = .ok (.int k M) w ∧ x ≤ M ∧ y ≤ M ∧ z ≤ M ∧ u ≤ M ∧ (M = x ∨ M = y ∨ M = z ∨ M = u) := by
  refine ⟨_, by simp [Builtin.max_, Builtin.max2]; rfl, ?_⟩
  by_cases h1 : x < y <;> by_cases h2 : (if x < y then y else x) < z <;> by_cases h3 : (if (if x < y then y else x) < z then z else (if x < y then y else x)) < u <;> simp [h1] at h2 h3 ⊢ <;> simp_all <;> omega
def StepsR (A0 B0 : Nat) (a0 b0 : Int) (e : Ending) : Prop := ∃ w x y z a b : Int, e = .returned (.tuple #[.int .i64 w, .int .i64 x, .int .i64 y, .int .i64 z]) ∧ LI A0 B0 a0 b0 a b w x y z ∧
  (-999999999 ≤ w ∧ w ≤ 999999999 ∧ -999999999 ≤ x ∧ x ≤ 999999999) ∧ (-999999999 ≤ y ∧ y ≤ 999999999 ∧ -999999999 ≤ z ∧ z ≤ 999999999)
set_option maxRecDepth 100000 in
set_option maxHeartbeats 2000000 in
theorem steps_n (W : World) (A0 B0 S : Nat) (a0 b0 : Int) (hS : 0 < S) (hA : a0 = (A0 / S : Nat)) (hB : b0 = (B0 / S : Nat)) (hle : B0 ≤ A0) (ha9 : a0 ≤ 999999999999999999) (hb9 : b0 ≤ 999999999999999999) :
    Calls Tryz.prog 226 #[.int .i64 a0, .int .i64 b0] W fun e w' => StepsR A0 B0 a0 b0 e ∧ W = w' := by
  have ha0 : 0 ≤ a0 := by rw [hA]; exact Int.natCast_nonneg _
  have hb0 : 0 ≤ b0 := by rw [hB]; exact Int.natCast_nonneg _
  have HA := Lib.hid hA
  have HB := Lib.hid hB
  clear hA hB
  go_enter Tryz.func226, Tryz.ntmps226
  go_wp2
  go_loop [0, 1, 4, 5, 6, 7] (fun sa sb sw sx sy sz => ∃ a b w x y z : Int, sa = .int .i64 a ∧ sb = .int .i64 b ∧ sw = .int .i64 w ∧ sx = .int .i64 x ∧ sy = .int .i64 y ∧ sz = .int .i64 z ∧
      (-999999999 ≤ w ∧ w ≤ 999999999 ∧ -999999999 ≤ x ∧ x ≤ 999999999) ∧ (-999999999 ≤ y ∧ y ≤ 999999999 ∧ -999999999 ≤ z ∧ z ≤ 999999999) ∧ Hid (LI A0 B0 a0 b0 a b w x y z)) (fun _ sb _ _ sy _ => (intOf sb + intOf sy).toNat)
  case atStart => exact ⟨a0, b0, 1, 0, 0, 1, rfl, rfl, rfl, rfl, rfl, rfl, by omega, by omega, LI.start ha0 hb0 hle⟩
  case round =>
    obtain ⟨a, b, w, x, y, z, rfl, rfl, rfl, rfl, rfl, rfl, ⟨hw0, hw1, hx0, hx1⟩, ⟨hy0, hy1, hz0, hz1⟩, hrel⟩ := hrel
    obtain ⟨hab0, hab1, hab2, hab3⟩ := hrel.out.bounds ha9 hb9
    have haw := hrel.out.aw
    have hax := hrel.out.ax
    have hby := hrel.out.by_
    have hbz := hrel.out.bz
    have hfin : Hid (StepsR A0 B0 a0 b0 (.returned (.tuple #[.int .i64 w, .int .i64 x, .int .i64 y, .int .i64 z]))) := ⟨w, x, y, z, a, b, rfl, hrel.out, ⟨hw0, hw1, hx0, hx1⟩, ⟨hy0, hy1, hz0, hz1⟩⟩
    rcases Int.lt_or_le 0 (b + y) with hpy | hpy
    · rcases Int.lt_or_le 0 (b + z) with hpz | hpz
      · have hb1 : (b + y != 0) = true := by rw [bne_iff_ne]; omega
        have hb2 : (b + z != 0) = true := by rw [bne_iff_ne]; omega
        by_cases hq : (a + w) / (b + y) = (a + x) / (b + z)
        · have hq0 : 0 ≤ (a + w) / (b + y) := Int.ediv_nonneg haw og
          have hq1 : (a + w) / (b + y) ≤ a + w := Int.ediv_le_self _ haw
          have hq2 : (a + x) / (b + z) ≤ a + x := Int.ediv_le_self _ hax
          have hq3 : (a + w) / (b + y) * (b + y) ≤ a + w := Int.ediv_mul_le _ og
          have hst := Lib.hid (hrel.out.step hS HA.out HB.out hpy hpz rfl hq)
          have hbq : ((a + w) / (b + y) != (a + x) / (b + z)) = false := by simp [hq]
          rw [← hq] at hq2
          have Hq := Lib.hid hq
          clear hq
          obtain ⟨f1, f2, f3, f4, f5, f6⟩ := hrel.out.fits ha9 hb9 ⟨hw0, hw1⟩ ⟨hx0, hx1⟩ ⟨hy0, hy1⟩ ⟨hz0, hz1⟩ hq0 hq1 hq2 hq3
          clear hq3
          by_cases hs : -999999999 ≤ w - (a + w) / (b + y) * y ∧ w - (a + w) / (b + y) * y ≤ 999999999 ∧ -999999999 ≤ x - (a + w) / (b + y) * z ∧ x - (a + w) / (b + y) * z ≤ 999999999
          · obtain ⟨s1, s2, s3, s4⟩ := hs
            obtain ⟨M, hM, m1, m2, m3, m4, m5⟩ := max4 Tryz.prog W .i64 #[2, 2, 2, 2] 2 (w - (a + w) / (b + y) * y) (-(w - (a + w) / (b + y) * y)) (x - (a + w) / (b + y) * z) (-(x - (a + w) / (b + y) * z))
            have hM9 : M ≤ 999999999 := by rcases m5 with h | h | h | h <;> omega
            clear m1 m2 m3 m4 m5
            go_wp2
            go_round
            case rel => exact ⟨_, _, _, _, _, _, rfl, rfl, rfl, rfl, rfl, rfl, ⟨hy0, hy1, hz0, hz1⟩, ⟨s1, s2, s3, s4⟩, hst.out⟩
            case measure =>
              have hme : (a + w) % (b + y) < b + y := Int.emod_lt_of_pos _ hpy
              have hmz : (a + w) % (b + y) = a - (a + w) / (b + y) * b + (w - (a + w) / (b + y) * y) := by
                have := Int.emod_def (a + w) (b + y)
                rw [this]
                grind
              have hm0 : 0 ≤ (a + w) % (b + y) := Int.emod_nonneg _ og
              simp [intOf]
              omega
          · obtain ⟨M, hM, m1, m2, m3, m4, m5⟩ := max4 Tryz.prog W .i64 #[2, 2, 2, 2] 2 (w - (a + w) / (b + y) * y) (-(w - (a + w) / (b + y) * y)) (x - (a + w) / (b + y) * z) (-(x - (a + w) / (b + y) * z))
            have hM9 : 1000000000 ≤ M := og
            clear m1 m2 m3 m4 m5 hs
            go_wp2
            exact bodyPost_ret (v := .tuple #[.int .i64 w, .int .i64 x, .int .i64 y, .int .i64 z]) (by simp [results, Tryz.results226, go_sem]) rfl ⟨hfin.out, rfl⟩
        · have hbq : ((a + w) / (b + y) != (a + x) / (b + z)) = true := by simpa using hq
          have hq0 : 0 ≤ (a + w) / (b + y) := Int.ediv_nonneg haw og
          have hq1 : (a + w) / (b + y) ≤ a + w := Int.ediv_le_self _ haw
          have hq4 : 0 ≤ (a + x) / (b + z) := Int.ediv_nonneg hax og
          have hq2 : (a + x) / (b + z) ≤ a + x := Int.ediv_le_self _ hax
          clear hq
          go_wp2
          exact bodyPost_ret (v := .tuple #[.int .i64 w, .int .i64 x, .int .i64 y, .int .i64 z]) (by simp [results, Tryz.results226, go_sem]) rfl ⟨hfin.out, rfl⟩
      · have hz' : b + z = 0 := og
        have hb1 : (b + y != 0) = true := by rw [bne_iff_ne]; omega
        have hb2 : (b + z != 0) = false := by rw [bne_eq_false_iff_eq]; exact hz'
        clear hz'
        go_wp2
        exact bodyPost_ret (v := .tuple #[.int .i64 w, .int .i64 x, .int .i64 y, .int .i64 z]) (by simp [results, Tryz.results226, go_sem]) rfl ⟨hfin.out, rfl⟩
    · have hb1 : (b + y != 0) = false := by rw [bne_eq_false_iff_eq]; omega
      go_wp2
      exact bodyPost_ret (v := .tuple #[.int .i64 w, .int .i64 x, .int .i64 y, .int .i64 z]) (by simp [results, Tryz.results226, go_sem]) rfl ⟨hfin.out, rfl⟩
end Go.Proofs.YtijjjbgnpfjpmaaGreatDoor
namespace Go.Proofs.YtijjjbgnpfjpmaaGreatDoor
theorem top_three {y n : Nat} (hn : 3 ≤ n) (hy : y < pw n) : y / pw (n - 3) = ((lim y).getD (n - 1) 0 * 1000000000 + (lim y).getD (n - 2) 0) * 1000000000 + (lim y).getD (n - 3) 0 := by
  obtain ⟨m, rfl⟩ : ∃ m, n = m + 3 := ⟨n - 3, by omega⟩
  rw [zcx, zcx, zcx]
  simp only [Nat.add_sub_cancel, show m + 3 - 1 = m + 2 from by omega, show m + 3 - 2 = m + 1 from by omega]
  have h1 : y / pw (m + 1) = y / pw m / 1000000000 := by rw [zax, Nat.mul_comm, Nat.div_div_eq_div_mul]
  have h2 : y / pw (m + 2) = y / pw m / 1000000000 / 1000000000 := by rw [show m + 2 = (m + 1) + 1 from rfl, zax, Nat.mul_comm, ← Nat.div_div_eq_div_mul, h1]
  have h3 : y / pw m < 1000000000000000000000000000 := by
    rw [Nat.div_lt_iff_lt_mul (zcy m)]
    rw [show m + 3 = 3 + m from by omega, pw_add] at hy
    simp only [pw] at hy ⊢
    omega
  rw [h1, h2]
  clear h1 h2
  generalize y / pw m = Z at *
  omega
def TensAt (top t c : Nat) : Prop := t * c = 1000000000 ∧ top * t < 1000000000
theorem TensAt.start {top : Nat} (h : top < 1000000000) : TensAt top 1 1000000000 := ⟨rfl, by omega⟩
def dig18 (y n t : Nat) : Nat := ((lim y).getD (n - 1) 0 * 1000000000 + (lim y).getD (n - 2) 0) * t + (lim y).getD (n - 3) 0 * t / 1000000000
theorem dig18_eq {y n t c : Nat} (hn : 3 ≤ n) (hy : y < pw n) (h : t * c = 1000000000) : dig18 y n t = y / (pw (n - 3) * c) := by
  have hc : 0 < c := by
    rcases Nat.eq_zero_or_pos c with h0 | h0
    · subst h0; omega
    · exact h0
  have ht : 0 < t := by
    rcases Nat.eq_zero_or_pos t with h0 | h0
    · subst h0; omega
    · exact h0
  unfold dig18
  have e0 : y / (pw (n - 3) * c) = y / pw (n - 3) / c := (Nat.div_div_eq_div_mul _ _ _).symm
  rw [e0, top_three hn hy, ← h]
  have e1 : (lim y).getD (n - 3) 0 * t / (t * c) = (lim y).getD (n - 3) 0 / c := by rw [Nat.mul_comm t c, Nat.mul_div_mul_right _ _ ht]
  have e2 : ((lim y).getD (n - 1) 0 * (t * c) + (lim y).getD (n - 2) 0) * (t * c) + (lim y).getD (n - 3) 0 = ((lim y).getD (n - 1) 0 * (t * c) + (lim y).getD (n - 2) 0) * t * c + (lim y).getD (n - 3) 0 := by rw [Nat.mul_assoc _ t c]
  have e3 : ∀ u g : Nat, (u * c + g) / c = u + g / c := fun u g => by rw [Nat.add_comm, Nat.add_mul_div_right _ _ hc, Nat.add_comm]
  rw [e1, e2, e3]
theorem dig18_le {y n t c : Nat} (h : t * c = 1000000000) (htop : (lim y).getD (n - 1) 0 * t < 1000000000) : (lim y).getD (n - 1) 0 * t + t ≤ 1000000000 ∧ t ≤ 1000000000 := by
  have hc : 0 < c := by
    rcases Nat.eq_zero_or_pos c with h0 | h0
    · subst h0; omega
    · exact h0
  generalize (lim y).getD (n - 1) 0 = g at *
  have h1 : g < c := by
    rcases Nat.lt_or_ge g c with h1 | h1
    · exact h1
    · have := Nat.mul_le_mul_right t h1
      rw [Nat.mul_comm c t] at this
      omega
  have h2 := Nat.mul_le_mul_right t h1
  rw [Nat.mul_comm c t, Nat.succ_eq_add_one, Nat.add_mul, Nat.one_mul] at h2
  exact ⟨by omega, by rw [← h]; exact Nat.le_mul_of_pos_right _ hc⟩
theorem cast_mul_le {a b c : Nat} (h : a * b ≤ c) : (a : Int) * (b : Int) ≤ (c : Int) := by rw [← Int.natCast_mul]; omega
theorem uncast_lt10 {a b : Nat} (h : (a : Int) * (b : Int) * 10 < 1000000000) : a * b * 10 < 1000000000 := by rw [← Int.natCast_mul] at h; omega
theorem cast_top {l : List Nat} {n T : Nat} (h : l.getD (n - 1) 0 * T + T ≤ 1000000000) : ((l.getD ((n : Int) - 1).toNat 0 : Nat) : Int) * (T : Int) + (T : Int) ≤ 1000000000 := by
  rw [show ((n : Int) - 1).toNat = n - 1 from by omega, ← Int.natCast_mul]
  omega
theorem tens_next {top T : Nat} (h1 : 1 ≤ top) (hlt : top * T * 10 < 1000000000) (h : ∃ t, t ≤ 9 ∧ T = 10 ^ t) : T * 10 < 1000000000 ∧ (∃ t, t ≤ 9 ∧ T * 10 = 10 ^ t) ∧ top * (T * 10) ≤ 999999999 := by
  have h2 := Nat.mul_le_mul_right T h1
  have h3 : T * 10 < 1000000000 := og
  refine ⟨h3, ?_, by rw [← Nat.mul_assoc]; omega⟩
  obtain ⟨t, g1, g2⟩ := h
  refine ⟨t + 1, ?_, by rw [g2, Nat.pow_succ]⟩
  rcases Nat.lt_or_ge t 9 with g3 | g3
  · omega
  · have g4 := Nat.pow_le_pow_right (show 0 < 10 by omega) g3
    rw [← g2] at g4
    omega
theorem lead_end {x y n T : Nat} (h3 : 3 ≤ n) (hx : x < pw n) (hle : y ≤ x) (htop : (lim x).getD (n - 1) 0 * T ≤ 999999999) (h : ∃ t, t ≤ 9 ∧ T = 10 ^ t) :
    ∃ S : Nat, 0 < S ∧ dig18 x n T = x / S ∧ dig18 y n T = y / S ∧ x / S ≤ 999999999999999999 ∧ (lim x).getD (n - 1) 0 * T + T ≤ 1000000000 ∧ (lim y).getD (n - 1) 0 * T + T ≤ 1000000000 := by
  obtain ⟨t, ht9, hTt⟩ := h
  have hcc : T * 10 ^ (9 - t) = 1000000000 := by rw [hTt, ← Nat.pow_add, show t + (9 - t) = 9 from by omega]
  have hyn : y < pw n := Nat.lt_of_le_of_lt hle hx
  have ex := dig18_eq h3 hx hcc
  have ey := dig18_eq h3 hyn hcc
  have h1 : (lim y).getD (n - 1) 0 ≤ (lim x).getD (n - 1) 0 := by
    rw [zcx, zcx]
    have h2 : x / pw (n - 1) < 1000000000 := by
      rw [Nat.div_lt_iff_lt_mul (zcy _)]
      rw [show n = (n - 1) + 1 from by omega, zax] at hx
      exact hx
    have h3 : y / pw (n - 1) ≤ x / pw (n - 1) := Nat.div_le_div_right hle
    rw [Nat.mod_eq_of_lt h2, Nat.mod_eq_of_lt og]
    exact h3
  have hty := Nat.mul_le_mul_right T h1
  have hlx := dig18_le (y := x) (n := n) hcc og
  have hly := dig18_le (y := y) (n := n) hcc og
  refine ⟨pw (n - 3) * 10 ^ (9 - t), Nat.mul_pos (zcy _) (Nat.pow_pos og), ex, ey, ?_, hlx.1, hly.1⟩
  rw [← ex]
  have g2 := zcj (zat x) (n - 2)
  have g3 := zcj (zat x) (n - 3)
  unfold dig18
  generalize (lim x).getD (n - 1) 0 = u1 at *
  generalize (lim x).getD (n - 2) 0 = u2 at *
  generalize (lim x).getD (n - 3) 0 = u3 at *
  have e : (u1 * 1000000000 + u2) * T = u1 * T * 1000000000 + u2 * T := by grind
  have k3 := Nat.mul_le_mul_right T (Nat.le_of_lt_succ g2)
  have k4 := Nat.mul_le_mul_right T (Nat.le_of_lt_succ g3)
  rw [e]
  omega
end Go.Proofs.YtijjjbgnpfjpmaaGreatDoor
namespace Go.Proofs.YtijjjbgnpfjpmaaGreatDoor
open Go.RowKit
set_option linter.unusedVariables false
set_option maxHeartbeats 400000 in
theorem limb_n {w : World} {va : Value} {y lo hi Bl : Nat} (i : Int) (h0 : 0 ≤ i) (h9 : i ≤ 4294967296) (ha : IsN w lo hi va y) (hc : w.cell? ⟨Bl, 0, none⟩ = some va) :
    Calls Tryz.prog 250 #[.int .i64 i, .pointer (some ⟨Bl, 0, none⟩)] w fun e w' => e = .returned (.int .u64 ((lim y).getD i.toNat 0 : Nat)) ∧ w' = w := by
  have hal := ha.length_le
  unfold maxLen at hal
  obtain ⟨A, c, rfl, _, _, hA⟩ := ha
  obtain ⟨k, rfl⟩ := Int.eq_ofNat_of_zero_le h0
  rw [Int.toNat_natCast]
  generalize hl : lim y = l at *
  have Hl := Lib.hid hl
  clear hl
  rcases Nat.lt_or_ge k l.length with h | h
  · obtain ⟨b, off, rfl, _, _, hca⟩ := hA (zap (j := k) h)
    obtain ⟨x, hx, hx0, hck⟩ := zbo (j := k) hca h
    have hx9 : x ≤ 999999999 := by
      have := hx.out
      have := zcj (zat y) k
      rw [Hl.out] at this
      omega
    clear hca
    go_enter Tryz.func250, Tryz.ntmps250
    go_wp2
    go_ret
    exact ⟨zae hx.out, rfl⟩
  · have H := Lib.hid (zbg h)
    go_enter Tryz.func250, Tryz.ntmps250
    go_wp2
    go_ret
    exact ⟨zae (by rw [H.out]; rfl), rfl⟩
theorem IsN.drewB {w : World} {lo hi : Nat} {v : Value} {x : Nat} (h : IsN w lo hi v x) (n : Nat) : IsN (w.drewN n) lo hi v x := h
set_option maxRecDepth 100000 in
set_option maxHeartbeats 1000000 in
theorem lead1_n {w : World} {va : Value} {y lo hi Bn Bt : Nat} (n t : Int) (ha : IsN w lo hi va y) (hi1 : hi ≤ w.heap.size) (hn0 : 3 ≤ n) (hn9 : n ≤ 4294967296) (ht0 : 1 ≤ t) (ht9 : t ≤ 1000000000) (htop : ((lim y).getD (n - 1).toNat 0 : Int) * t + t ≤ 1000000000)
    (hn : w.cell? ⟨Bn, 0, none⟩ = some (.int .i64 n)) (ht : w.cell? ⟨Bt, 0, none⟩ = some (.int .u64 t)) (hBn : Bn < w.heap.size) (hBt : Bt < w.heap.size) :
    Calls Tryz.prog 249 #[va, .pointer (some ⟨Bn, 0, none⟩), .pointer (some ⟨Bt, 0, none⟩)] w fun e w' => e = .returned (.int .i64 (dig18 y n.toNat t.toNat : Nat)) ∧ Below w.heap.size w w' := by
  have Ha := Lib.hid ha
  obtain ⟨A, c, rfl, _, _, hA⟩ := ha
  have hn' := (World.cell?_alloc_lt w (.cells #[.slice A (lim y).length c] 28) ⟨Bn, 0, none⟩ hBn).trans hn
  have ht' := (World.cell?_alloc_lt w (.cells #[.slice A (lim y).length c] 28) ⟨Bt, 0, none⟩ hBt).trans ht
  have hl' : (w.alloc (.cells #[.slice A (lim y).length c] 28)).cell? ⟨w.heap.size, 0, none⟩ = some (.slice A (lim y).length c) := by
    have := cell_one_new w (.slice A (lim y).length c) 28 0 _ rfl
    rwa [Addr.add_lit] at this
  have HL := Lib.hid (And.intro (Ha.out.below ((Below.refl _ w).alloc (Nat.le_refl _) (.cells #[.slice A (lim y).length c] 28)) hi1) hl')
  clear hl' hn ht
  have hL : ∀ (i : Int), 0 ≤ i → i ≤ 4294967296 → ∀ k, Calls Tryz.prog 250 #[.int .i64 i, .pointer (some ⟨w.heap.size, 0, none⟩)] ((w.alloc (.cells #[.slice A (lim y).length c] 28)).drewN k) fun e w' => e = .returned (.int .u64 ((lim y).getD i.toNat 0 : Nat)) ∧ w' = (w.alloc (.cells #[.slice A (lim y).length c] 28)).drewN k :=
    fun i h0 h9 k => limb_n i h0 h9 (HL.out.1.drewB k) HL.out.2
  obtain ⟨g1, hg1, h1⟩ : ∃ g1 : Int, g1 = ((lim y).getD (n - 1).toNat 0 : Nat) ∧ _ := ⟨_, rfl, hL (n - 1) og og⟩
  obtain ⟨g2, hg2, h2⟩ : ∃ g2 : Int, g2 = ((lim y).getD (n - 2).toNat 0 : Nat) ∧ _ := ⟨_, rfl, hL (n - 2) og og⟩
  obtain ⟨g3, hg3, h3⟩ : ∃ g3 : Int, g3 = ((lim y).getD (n - 3).toNat 0 : Nat) ∧ _ := ⟨_, rfl, hL (n - 3) og og⟩
  rw [← hg1] at h1 htop
  rw [← hg2] at h2
  rw [← hg3] at h3
  have hb1 := zcj (zat y) (n - 1).toNat
  have hb2 := zcj (zat y) (n - 2).toNat
  have hb3 := zcj (zat y) (n - 3).toNat
  have g10 : 0 ≤ g1 := og
  have g19 : g1 ≤ 999999999 := og
  have g20 : 0 ≤ g2 := og
  have g29 : g2 ≤ 999999999 := og
  have g30 : 0 ≤ g3 := og
  have g39 : g3 ≤ 999999999 := og
  have p0 : 0 ≤ (g1 * 1000000000 + g2) * t := Int.mul_nonneg og og
  have p1 : (g1 * 1000000000 + g2) * t ≤ 1000000000000000000 := by
    have e : (g1 * 1000000000 + g2) * t = g1 * t * 1000000000 + g2 * t := by grind
    have h := Int.mul_le_mul_of_nonneg_right g29 (show 0 ≤ t by omega)
    rw [e]
    omega
  have p2 : 0 ≤ g3 * t := Int.mul_nonneg g30 og
  have p3 : g3 * t ≤ 999999999000000000 := by
    have h := Int.mul_le_mul g39 ht9 og (by omega : (0 : Int) ≤ 999999999)
    omega
  have hfin : Hid ((g1 * 1000000000 + g2) * t + g3 * t / 1000000000 = ((dig18 y n.toNat t.toNat : Nat) : Int)) := by
    obtain ⟨m, rfl⟩ := Int.eq_ofNat_of_zero_le (show 0 ≤ n by omega)
    obtain ⟨s, rfl⟩ := Int.eq_ofNat_of_zero_le (show 0 ≤ t by omega)
    have e1 : ((m : Int) - 1).toNat = m - 1 := og
    have e2 : ((m : Int) - 2).toNat = m - 2 := og
    have e3 : ((m : Int) - 3).toNat = m - 3 := og
    unfold Hid dig18
    rw [hg1, hg2, hg3, e1, e2, e3, Int.toNat_natCast, Int.toNat_natCast]
    simp
  have H1 := Lib.hid h1
  have H2 := Lib.hid h2
  have H3 := Lib.hid h3
  have HC : Hid (∀ k, Below w.heap.size w ((w.alloc (.cells #[.slice A (lim y).length c] 28)).drewN k)) := fun k => below_drewN ((Below.refl _ w).alloc (Nat.le_refl _) _) k
  clear hL h1 h2 h3 hg1 hg2 hg3 hb1 hb2 hb3 htop HL Ha
  go_enter Tryz.func249, Tryz.ntmps249
  go_wp2
  go_quiet ((go_at_call 250; first | (with_reducible exact Calls.quiet_of_same (H1.out _)) | (with_reducible exact Calls.quiet_of_same (H2.out _)) | (with_reducible exact Calls.quiet_of_same (H3.out _))))
  go_wp2
  go_ret
  exact ⟨zae hfin.out, HC.out _⟩
def leftT (g : Nat) (w : World) : Nat := match w.cell? ⟨g, 0, none⟩ with
  | some (.int _ t) => 1000000000 - t.toNat
  | _ => 0
theorem leftT_eq {g : Nat} {w : World} {k : IntKind} {t : Int} (h : w.cell? ⟨g, 0, none⟩ = some (.int k t)) : leftT g w = 1000000000 - t.toNat := by unfold leftT; rw [h]
def LeadR (x y : Nat) (e : Ending) : Prop := ∃ S : Nat, 0 < S ∧ e = .returned (.tuple #[.int .i64 (x / S : Nat), .int .i64 (y / S : Nat)]) ∧ x / S ≤ 999999999999999999
set_option maxRecDepth 100000 in
set_option maxHeartbeats 1000000 in
theorem lead_n {w : World} {va vb : Value} {x y lo hi lo' hi' : Nat} (ha : IsN w lo hi va x) (hb : IsN w lo' hi' vb y) (hi1 : hi ≤ w.heap.size) (hi2 : hi' ≤ w.heap.size) (hle : y ≤ x) (h3 : 3 ≤ (lim x).length) (hx : (lim x).length ≤ 4294967296) :
    Calls Tryz.prog 227 #[va, vb] w fun e w' => LeadR x y e ∧ Below w.heap.size w w' := by
  have Ha := Lib.hid ha
  have Hb := Lib.hid hb
  obtain ⟨A, c, rfl, _, _, hA⟩ := ha
  obtain ⟨B, d, rfl, _, _, hB⟩ := hb
  obtain ⟨n, hn⟩ : ∃ n, n = (lim x).length := ⟨_, rfl⟩
  have hxp : Hid (x < pw n) := by rw [Hid, hn]; exact zfe x
  have htop1 : 1 ≤ (lim x).getD (n - 1) 0 := by
    rw [zcx]
    have h1 : pw (n - 1) ≤ x := lim_len_lt.1 og
    have h2 : x < pw (n - 1) * 1000000000 := by
      have := hxp.out
      rw [show n = (n - 1) + 1 from by omega, zax, Nat.mul_comm] at this
      exact this
    have h3 : x / pw (n - 1) < 1000000000 := by rw [Nat.div_lt_iff_lt_mul (zcy _), Nat.mul_comm]; exact h2
    rw [Nat.mod_eq_of_lt h3]
    exact Nat.div_pos h1 (zcy _)
  have htop9 := zcj (zat x) (n - 1)
  obtain ⟨top, ht⟩ : ∃ top, top = (lim x).getD (n - 1) 0 := ⟨_, rfl⟩
  obtain ⟨b, off, rfl, hb1, hb2, _⟩ := hA (zap (j := n - 1) og)
  have hcell : ∀ wr, Below w.heap.size w wr → wr.cell? ⟨b, off + (n - 1), none⟩ = some (.int .u32 (top : Int)) := by
    intro wr hbw
    rw [ht]
    exact (hA.below hbw hi1).at_ _ _ (zdf og)
  have Hcell := Lib.hid hcell
  have Hn := Lib.hid hn
  have Ht := Lib.hid ht
  rw [← hn] at h3 hx Ha ⊢
  rw [← ht] at htop1 htop9
  clear hcell hn ht hA
  have hbx := cell_one_new w (.int .i64 (n : Int)) 3 0 _ rfl
  have hby := cell_one_new (w.alloc (.cells #[.int .i64 (n : Int)] 3)) (.int .u64 1) 212 0 _ rfl
  rw [Addr.add_lit, Nat.add_zero] at hbx hby
  rw [World.size_alloc] at hby
  have hbx2 := (World.cell?_alloc_lt (w.alloc (.cells #[.int .i64 (n : Int)] 3)) (.cells #[.int .u64 1] 212) ⟨w.heap.size, 0, none⟩ (by rw [World.size_alloc]; show w.heap.size < _; omega)).trans hbx
  have hb0 := (((Below.refl w.heap.size w).alloc (Nat.le_refl _) (.cells #[.int .i64 (n : Int)] 3)).alloc (by rw [World.size_alloc]; omega) (.cells #[.int .u64 1] 212))
  have Hb0 := Lib.hid hb0
  have HC := Lib.hid (And.intro hbx2 hby)
  have hszn : (((w.alloc (.cells #[.int .i64 (n : Int)] 3)).alloc (.cells #[.int .u64 1] 212)).heap.size) = w.heap.size + 2 := by rw [World.size_alloc, World.size_alloc]
  have Hsz := Lib.hid hszn
  have hfz : ∀ wr : World, (∃ t, Row wr (w.heap.size + 1) 212 t) → wr.frozen? ⟨w.heap.size + 1, 0, none⟩ = false := fun wr ⟨t, h⟩ => h.frozen 0
  have hrow : Row ((w.alloc (.cells #[.int .i64 (n : Int)] 3)).alloc (.cells #[.int .u64 1] 212)) (w.heap.size + 1) 212 [.int .u64 1] := by
    have := heap_alloc_new (w.alloc (.cells #[.int .i64 (n : Int)] 3)) (.cells #[.int .u64 1] 212)
    rw [World.size_alloc] at this
    exact this
  have Hrow := Lib.hid hrow
  clear hbx hbx2 hby hb0 hszn hrow hfz
  go_enter Tryz.func227, Tryz.ntmps227
  go_wp2
  go_loopw [] (fun wr => ∃ T : Nat, Row wr (w.heap.size + 1) 212 [.int .u64 (T : Int)] ∧ wr.cell? ⟨w.heap.size, 0, none⟩ = some (.int .i64 (n : Int)) ∧ Below w.heap.size w wr ∧ Hid (wr.heap.size = w.heap.size + 2) ∧ 1 ≤ T ∧ T ≤ 1000000000 ∧ top * T ≤ 999999999 ∧ Hid (∃ t, t ≤ 9 ∧ T = 10 ^ t)) (fun wr => leftT (w.heap.size + 1) wr)
  case atStart => exact ⟨1, Hrow.out, HC.out.1, Hb0.out, Hsz.out, by omega, by omega, by omega, 0, by omega, rfl⟩
  case round =>
    obtain ⟨T, hr, hcn, hbw, hsz, hT0, hT9, htT, hrel⟩ := hrel
    have hct := hr.cell 0
    have hft := hr.frozen 0
    have hctop := Hcell.out wr hbw
    simp only [List.getElem?_cons_zero] at hct
    have hp0 : 0 ≤ (top : Int) * (T : Int) := Int.mul_nonneg og og
    have hp1 : (top : Int) * (T : Int) ≤ 999999999 := cast_mul_le htT
    rcases Int.lt_or_le ((top : Int) * T * 10) 1000000000 with hlt | hge
    · have hnx := tens_next htop1 (uncast_lt10 hlt) hrel.out
      have hT10 := hnx.1
      have hnew := Lib.hid hnx.2.1
      have htT2 := Lib.hid hnx.2.2
      clear hnx
      go_wp2
      go_quiet (fail)
      go_wp2
      go_roundw
      case rel =>
        refine ⟨T * 10, ?_, ?_, below_drewN hbw _ |>.setCell (by show w.heap.size ≤ w.heap.size + 1; omega) _, ?_, by omega, by omega, htT2.out, hnew.out⟩
        · have := (hr.drewN nq).set_ 0 (.int .u64 ((T : Int) * 10))
          rw [Int.natCast_mul]
          exact this
        · rw [World.cell?_setCell_other _ _ _ _ (by simp)]
          exact hcn
        · have := hsz.out
          simpa [Hid, World.setCell] using this
      case measure =>
        rw [leftT_eq hct, leftT_eq (k := .u64) (t := (T : Int) * 10) (World.cell?_setCell_same' _ _ _ (by show (wr.cell? _).isSome = true; rw [hct]; rfl))]
        omega
    · obtain ⟨S, hS0, ex, ey, hx18, hlx, hly⟩ := lead_end h3 hxp.out hle (by rw [← Ht.out]; exact htT) hrel.out
      have Hfin : Hid (LeadR x y (.returned (.tuple #[.int .i64 (dig18 x n T : Nat), .int .i64 (dig18 y n T : Nat)]))) := ⟨S, hS0, by rw [ex, ey], hx18⟩
      have Hlx := Lib.hid (cast_top hlx)
      have Hly := Lib.hid (cast_top hly)
      clear ex ey hx18 hlx hly hS0 hrel
      have Hw := Lib.hid (And.intro hcn (And.intro hct hbw))
      have hdec : decide ((top : Int) * (T : Int) * 10 < 1000000000) = false := decide_eq_false og
      go_wp2_with fail
      go_quiet (fail)
      clear hge
      go_wp2_with fail
      have hbq : Below w.heap.size w (wr.drewN nq) := below_drewN hbw nq
      have hszq : (wr.drewN nq).heap.size = w.heap.size + 2 := hsz.out
      have hnq : (wr.drewN nq).cell? ⟨w.heap.size, 0, none⟩ = some (.int .i64 (n : Int)) := hcn
      have htq : (wr.drewN nq).cell? ⟨w.heap.size + 1, 0, none⟩ = some (.int .u64 (T : Int)) := hct
      clear hcn hct hctop hft hr hbw hsz
      generalize wr.drewN nq = wq at *
      have hA1 := Lib.hid (Ha.out.below hbq hi1)
      have hB1 := Lib.hid (Hb.out.below hbq hi2)
      refine (lead1_n (n : Int) (T : Int) hA1.out og og og og og Hlx.out hnq htq og og).mono ?_
      rw [Int.toNat_natCast, Int.toNat_natCast]
      rintro e w2 ⟨rfl, hb2⟩
      have hbw2 := hbq.trans (hb2.mono hbq.size)
      have hn2 := (hb2.cell (p := ⟨w.heap.size, 0, none⟩) (by show w.heap.size < _; omega)).trans hnq
      have ht2 := (hb2.cell (p := ⟨w.heap.size + 1, 0, none⟩) (by show w.heap.size + 1 < _; omega)).trans htq
      have hsz2 := hb2.size
      clear hnq htq hA1
      go_wp2_with fail
      refine (lead1_n (n : Int) (T : Int) (hB1.out.below hb2 og) og og og og og Hly.out hn2 ht2 og og).mono ?_
      rw [Int.toNat_natCast, Int.toNat_natCast]
      rintro e w3 ⟨rfl, hb3⟩
      go_wp2_with fail
      go_ret2
      exact ⟨Hfin.out, hbw2.trans (hb3.mono hbw2.size)⟩
theorem mix_ring {V A B P X Y x y c c' r : Int} (h : V + c * P = X * A + Y * B) (hr : r = X * x + c + Y * y - c' * 1000000000) : V + P * r + c' * (1000000000 * P) = X * (A + P * x) + Y * (B + P * y) := by
  subst hr
  grind
theorem zej {a b L : List Nat} {k : Nat} {X Y x y c c' r : Int} (hk : k < L.length) (hx : x = (a.getD k 0 : Nat)) (hy : y = (b.getD k 0 : Nat)) (hr : r = X * x + c + Y * y - c' * 1000000000) (hr0 : 0 ≤ r)
    (h : (val (L.take k) : Int) + c * pw k = X * val (a.take k) + Y * val (b.take k)) : (val ((L.set k r.toNat).take (k + 1)) : Int) + c' * pw (k + 1) = X * val (a.take (k + 1)) + Y * val (b.take (k + 1)) := by
  have e := mix_ring h hr
  rw [zch hk, val_take_succ' a, val_take_succ' b, zax]
  have e1 : ((r.toNat : Nat) : Int) = r := Int.toNat_of_nonneg hr0
  simp only [Int.natCast_add, Int.natCast_mul, e1, ← hx, ← hy]
  exact e
theorem mix_end {V P c : Int} {R : Nat} (hV0 : 0 ≤ V) (hV : V < P) (hR : (R : Int) < P) (h : V + c * P = R) : V = R := by
  have hP : 0 < P := og
  rcases Int.lt_trichotomy c 0 with hc | hc | hc
  · have := Int.mul_le_mul_of_nonneg_right (show c ≤ -1 by omega) (Int.le_of_lt hP)
    rw [Int.neg_mul, Int.one_mul] at this
    omega
  · subst hc; omega
  · have := Int.mul_le_mul_of_nonneg_right (show 1 ≤ c by omega) (Int.le_of_lt hP)
    rw [Int.one_mul] at this
    omega
theorem mul_fits {X x : Int} (hX0 : -999999999 ≤ X) (hX1 : X ≤ 999999999) (hx0 : 0 ≤ x) (hx1 : x ≤ 999999999) : -999999998000000001 ≤ X * x ∧ X * x ≤ 999999998000000001 ∧ (0 ≤ X → 0 ≤ X * x) ∧ (X ≤ 0 → X * x ≤ 0) := by
  rcases Int.lt_or_le X 0 with h | h
  · have h1 := zbc (x := -X) (y := x) og og hx0 hx1
    rw [Int.neg_mul] at h1
    exact ⟨by omega, by omega, by omega, by omega⟩
  · have h1 := zbc (x := X) (y := x) h hX1 hx0 hx1
    refine ⟨by omega, by omega, by omega, fun h2 => ?_⟩
    have : X = 0 := og
    subst this
    omega
theorem tdivL {t : Int} (h : t < 0) : ∃ q, t.tdiv 1000000000 = q ∧ ((q = t / 1000000000 ∧ t % 1000000000 = 0) ∨ (q = t / 1000000000 + 1 ∧ 0 < t % 1000000000)) := by
  refine ⟨_, rfl, ?_⟩
  rw [Int.tdiv_eq_ediv]
  split
  · rename_i hd
    rcases hd with hd | hd
    · omega
    · exact .inl ⟨by omega, Int.emod_eq_zero_of_dvd hd⟩
  · rename_i hd
    refine .inr ⟨by simp, ?_⟩
    rcases Int.lt_or_le 0 (t % 1000000000) with h1 | h1
    · exact h1
    · exact absurd (.inr (Int.dvd_of_emod_eq_zero og)) hd
set_option maxRecDepth 100000 in
set_option maxHeartbeats 2000000 in
theorem mix_n {w : World} {va vb : Value} {A B R lo hi lo' hi' : Nat} (x y : Int) (ha : IsN w lo hi va A) (hb : IsN w lo' hi' vb B) (hi1 : hi ≤ w.heap.size) (hi2 : hi' ≤ w.heap.size) (hx0 : -999999999 ≤ x) (hx1 : x ≤ 999999999) (hy0 : -999999999 ≤ y) (hy1 : y ≤ 999999999)
    (hs : (0 ≤ x ∧ y ≤ 0) ∨ (x ≤ 0 ∧ 0 ≤ y)) (hR : (R : Int) = x * A + y * B) (hRA : R ≤ A) (hBA : B ≤ A) (hA9 : (lim A).length ≤ 4294967296) :
    Calls Tryz.prog 228 #[va, vb, .int .i64 x, .int .i64 y] w fun e w' => (∃ v, e = .returned v ∧ IsN w' w.heap.size w'.heap.size v R) ∧ Below w.heap.size w w' := by
  have hba := zah hBA
  have hRp : Hid (R < pw (lim A).length) := Nat.lt_of_le_of_lt hRA (zfe A)
  obtain ⟨AA, c, rfl, _, _, hAs⟩ := ha
  obtain ⟨BB, d, rfl, _, _, hBs⟩ := hb
  generalize hla : lim A = a at *
  generalize hlb : lim B = b at *
  have Hal : Hid (Lo a ∧ val a = A) := by rw [Hid, ← hla]; exact ⟨zat A, zas A⟩
  have Hbl : Hid (Lo b ∧ val b = B) := by rw [Hid, ← hlb]; exact ⟨zat B, zas B⟩
  have HR := Lib.hid hR
  clear hla hlb hR hRA hBA
  go_enter Tryz.func228, Tryz.ntmps228
  go_wp2_with (at_make; refine zdd elN rfl _ _ rfl a.length rfl rfl rfl rfl og ?_; intro G w1 hG hrow hb1 hz1)
  go_loopw [10, 18] (fun cr i wr => ∃ (k : Nat) (L : List Nat) (cy : Int), k ≤ a.length ∧ i = .int .i64 (k : Int) ∧ cr = .int .i64 cy ∧ -1000000000 ≤ cy ∧ cy ≤ 1000000000 ∧ Row wr G 160 (cel .u32 L) ∧ Below G w wr ∧ Hid (wr.heap.size = G + 1) ∧
      Hid (L.length = a.length ∧ Lo L ∧ (val (L.take k) : Int) + cy * pw k = x * val (a.take k) + y * val (b.take k))) (fun _ i _ => a.length - (intOf i).toNat)
  case atStart => exact ⟨0, _, 0, Nat.zero_le _, rfl, rfl, by omega, by omega, hrow, hb1, hz1, by simp, zbr _, by simp [val]⟩
  case round =>
    obtain ⟨k, L, cy, hk, rfl, rfl, hcy0, hcy1, hr, hbw, hsz, hrel⟩ := hrel
    have hbw' : Below w.heap.size w wr := by have := hG.out; subst this; exact hbw
    rcases Nat.lt_or_ge k a.length with hlt | hge
    · obtain ⟨ba, oa, rfl, _, _, hca⟩ := (hAs.below hbw' hi1) (zap (j := k) hlt)
      obtain ⟨u, hu, hu0, hu1, huc⟩ := zaw (j := k) Hal.out.1 hca hlt
      clear hca
      obtain ⟨z, hz, hz0, hzc⟩ := hr.num (i := k) (by rw [hrel.out.1]; exact hlt)
      have hzf := hr.frozen k
      have hkL : Hid (k < L.length) := by rw [hrel.out.1]; exact hlt
      obtain ⟨p0, p1, p2, p3⟩ := mul_fits hx0 hx1 hu0 hu1
      rcases Nat.lt_or_ge k b.length with hlb | hgb
      · obtain ⟨bb, ob, rfl, _, _, hcb⟩ := (hBs.below hbw' hi2) (zap (j := k) hlb)
        obtain ⟨v, hv, hv0, hv1, hvc⟩ := zaw (j := k) Hbl.out.1 hcb hlb
        clear hcb
        obtain ⟨q0, q1, q2, q3⟩ := mul_fits hy0 hy1 hv0 hv1
        have s0 : -999999998000000001 ≤ x * u + y * v := by rcases hs with ⟨h1, h2⟩ | ⟨h1, h2⟩ <;> (have := p2; have := p3; have := q2; have := q3; omega)
        have s1 : x * u + y * v ≤ 999999998000000001 := by rcases hs with ⟨h1, h2⟩ | ⟨h1, h2⟩ <;> (have := p2; have := p3; have := q2; have := q3; omega)
        clear p2 p3 q2 q3
        rcases Int.lt_or_le (x * u + cy + y * v) 0 with hneg | hpos
        · obtain ⟨q, hq, ⟨q1, q2⟩ | ⟨q1, q2⟩⟩ := tdivL hneg
          · have hq0 : -1000000001 ≤ q := og
            have hq1 : q ≤ 0 := og
            have hq2 : x * u + cy + y * v - q * 1000000000 = 0 := og
            go_wp2
            go_roundw
            case rel =>
              refine ⟨k + 1, L.set k ((x * u + cy + y * v) % 1000000000).toNat, (x * u + cy + y * v) / 1000000000, by omega, by go_num, int_eq og, by omega, by omega, ?_, hbw.setCell (Nat.le_refl _) _, by have := hsz.out; simpa [Hid, World.setCell] using this, by rw [List.length_set]; exact hrel.out.1, zbb hrel.out.2.1 og, zej (x := u) (y := v) (c := cy) (c' := (x * u + cy + y * v) / 1000000000) (r := (x * u + cy + y * v) % 1000000000) hkL.out hu.out hv.out og og hrel.out.2.2⟩
              exact hr.setNum k _ _ og
            case measure => simp [intOf]; omega
          · have hq0 : -1000000001 ≤ q := og
            have hq1 : q ≤ 0 := og
            have hq2 : x * u + cy + y * v - q * 1000000000 < 0 := og
            have hq3 : -1000000000 < x * u + cy + y * v - q * 1000000000 := og
            go_wp2
            go_roundw
            case rel =>
              refine ⟨k + 1, L.set k ((x * u + cy + y * v) % 1000000000).toNat, (x * u + cy + y * v) / 1000000000, by omega, by go_num, int_eq og, by omega, by omega, ?_, hbw.setCell (Nat.le_refl _) _, by have := hsz.out; simpa [Hid, World.setCell] using this, by rw [List.length_set]; exact hrel.out.1, zbb hrel.out.2.1 og, zej (x := u) (y := v) (c := cy) (c' := (x * u + cy + y * v) / 1000000000) (r := (x * u + cy + y * v) % 1000000000) hkL.out hu.out hv.out og og hrel.out.2.2⟩
              exact hr.setNum k _ _ og
            case measure => simp [intOf]; omega
        · go_wp2
          go_roundw
          case rel =>
            refine ⟨k + 1, L.set k ((x * u + cy + y * v) % 1000000000).toNat, (x * u + cy + y * v) / 1000000000, by omega, by go_num, int_eq og, by omega, by omega, ?_, hbw.setCell (Nat.le_refl _) _, by have := hsz.out; simpa [Hid, World.setCell] using this, by rw [List.length_set]; exact hrel.out.1, zbb hrel.out.2.1 og, zej (x := u) (y := v) (c := cy) (c' := (x * u + cy + y * v) / 1000000000) (r := (x * u + cy + y * v) % 1000000000) hkL.out hu.out hv.out og og hrel.out.2.2⟩
            exact hr.setNum k _ _ og
          case measure => simp [intOf]; omega
      · clear p2 p3
        rcases Int.lt_or_le (x * u + cy) 0 with hneg | hpos
        · obtain ⟨q, hq, ⟨q1, q2⟩ | ⟨q1, q2⟩⟩ := tdivL hneg
          · have hq0 : -1000000001 ≤ q := og
            have hq1 : q ≤ 0 := og
            have hq2 : x * u + cy - q * 1000000000 = 0 := og
            go_wp2
            go_roundw
            case rel =>
              refine ⟨k + 1, L.set k ((x * u + cy) % 1000000000).toNat, (x * u + cy) / 1000000000, by omega, by go_num, int_eq og, by omega, by omega, ?_, hbw.setCell (Nat.le_refl _) _, by have := hsz.out; simpa [Hid, World.setCell] using this, by rw [List.length_set]; exact hrel.out.1, zbb hrel.out.2.1 og, zej (x := u) (y := 0) (c := cy) (c' := (x * u + cy) / 1000000000) (r := (x * u + cy) % 1000000000) hkL.out hu.out (by rw [zbg hgb]; rfl) og og hrel.out.2.2⟩
              exact hr.setNum k _ _ og
            case measure => simp [intOf]; omega
          · have hq0 : -1000000001 ≤ q := og
            have hq1 : q ≤ 0 := og
            have hq2 : x * u + cy - q * 1000000000 < 0 := og
            have hq3 : -1000000000 < x * u + cy - q * 1000000000 := og
            go_wp2
            go_roundw
            case rel =>
              refine ⟨k + 1, L.set k ((x * u + cy) % 1000000000).toNat, (x * u + cy) / 1000000000, by omega, by go_num, int_eq og, by omega, by omega, ?_, hbw.setCell (Nat.le_refl _) _, by have := hsz.out; simpa [Hid, World.setCell] using this, by rw [List.length_set]; exact hrel.out.1, zbb hrel.out.2.1 og, zej (x := u) (y := 0) (c := cy) (c' := (x * u + cy) / 1000000000) (r := (x * u + cy) % 1000000000) hkL.out hu.out (by rw [zbg hgb]; rfl) og og hrel.out.2.2⟩
              exact hr.setNum k _ _ og
            case measure => simp [intOf]; omega
        · go_wp2
          go_roundw
          case rel =>
            refine ⟨k + 1, L.set k ((x * u + cy) % 1000000000).toNat, (x * u + cy) / 1000000000, by omega, by go_num, int_eq og, by omega, by omega, ?_, hbw.setCell (Nat.le_refl _) _, by have := hsz.out; simpa [Hid, World.setCell] using this, by rw [List.length_set]; exact hrel.out.1, zbb hrel.out.2.1 og, zej (x := u) (y := 0) (c := cy) (c' := (x * u + cy) / 1000000000) (r := (x * u + cy) % 1000000000) hkL.out hu.out (by rw [zbg hgb]; rfl) og og hrel.out.2.2⟩
            exact hr.setNum k _ _ og
          case measure => simp [intOf]; omega
    · obtain rfl : k = a.length := og
      have hV : Hid (val L = R) := by
        have h := hrel.out.2.2
        rw [zai (Nat.le_of_eq hrel.out.1), zai (Nat.le_refl _), zai hba, Hal.out.2, Hbl.out.2, ← HR.out] at h
        have h1 := zbz hrel.out.2.1
        rw [hrel.out.1] at h1
        have h2 := hRp.out
        exact Int.ofNat_inj.1 (mix_end og og og h)
      have H1 : Hid (Row wr G 160 (cel .u32 L) ∧ L.length = a.length ∧ Lo L) := ⟨hr, hrel.out.1, hrel.out.2.1⟩
      clear hr hrel
      go_wp2_with fail
      rw [← H1.out.2.1]
      refine (trim_list _ _ L wr G (G + 1) H1.out.2.2 (Nat.le_refl _) (by have := H1.out.2.1; unfold maxLen; omega) H1.out.1.sv).mono ?_
      rintro e w2 ⟨⟨v, rfl, hv⟩, rfl⟩
      go_wp2_with fail
      go_ret
      refine ⟨⟨_, rfl, ?_⟩, hbw'⟩
      rw [← hV.out]
      exact hv.wide (oh hG) (oh hsz)
end Go.Proofs.YtijjjbgnpfjpmaaGreatDoor
