/-
  The walk of the law VectorInverts.
-/
import Derived.Test.YtjkgdggkgljdoaaDoorVinv19
import Derived.Test.YtjkgdggkgljdoaaDoorProofVectorInverts06
import Derived.Test.YtjkgdggkgljdoaaDoorVinv18
namespace Go.Proofs.YtjkgdggkgljdoaaDoor
open Go.RowKit
set_option linter.unusedVariables false
set_option maxRecDepth 100000 in
set_option maxHeartbeats 40000000 in
theorem law_vinv {w : World} {vl : Value} {l : List Int} {n m : Int} (hl : IsIL w (Old w) vl l) (hn : In64 n) (hm : In64 m) (hB : Bru w) :
    Calls Tryd.prog 6 #[vl, .int .i64 n, .int .i64 m] w fun e w' => e = .returned (.bool true) ∧ Below w.heap.size w w' := by
  have HL := Lib.hid hl
  have HB := Lib.hid hB
  obtain ⟨A, c, rfl, _, _, _, _⟩ := hl
  obtain ⟨w0, hw0, hb0, rD, Hz⟩ := zcf w #[.slice A l.length c, .int .i64 0] 25
  have D : Hid (IsD w0 w.heap.size l) := ⟨A, c, 0, rD, IsIL.stb.to HL.out (same_below hb0 fun b h => h), Nat.zero_le _⟩
  have BB := Lib.hid hb0
  have HG : Hid (w.heap.size < w.heap.size + 1) := Nat.lt_succ_self _
  obtain ⟨xi, hx⟩ : ∃ xi : Int, n % 4 = xi := ⟨_, rfl⟩
  obtain ⟨yi, hy⟩ : ∃ yi : Int, m % 4 = yi := ⟨_, rfl⟩
  obtain ⟨N, hN⟩ : ∃ N : Nat, 1 + xi = (N : Int) := ⟨(1 + xi).toNat, by omega⟩
  obtain ⟨MM, hM⟩ : ∃ N : Nat, 1 + yi = (N : Int) := ⟨(1 + yi).toNat, by omega⟩
  have hN1 : 1 ≤ N := by omega
  have hN4 : N ≤ 4 := by omega
  have hM1 : 1 ≤ MM := by omega
  have hM4 : MM ≤ 4 := by omega
  have hwN : IntKind.i64.wrap (N : Int) = (N : Int) := IntWalk.i64_in _ (by omega)
  have hwM : IntKind.i64.wrap (MM : Int) = (MM : Int) := IntWalk.i64_in _ (by omega)
  have hx0 : 0 ≤ xi := by omega
  have hx1 : xi ≤ 3 := by omega
  have hy0 : 0 ≤ yi := by omega
  have hy1 : yi ≤ 3 := by omega
  have Hx := Lib.hid hx
  have Hy := Lib.hid hy
  have Hn := Lib.hid hn
  have Hm := Lib.hid hm
  clear hb0 rD hB hx hy hn hm
  go_enter Tryd.func6, Tryd.ntmps6
  go_wp2_with fail
  clear hw0
  refine (mod_n _ n 4 Hn.out.1 Hn.out.2 (by omega) (by omega)).mono ?_
  rw [Hx.out]
  rintro e w1 ⟨rfl, rfl⟩
  go_wp2_with fail
  refine (mod_n _ m 4 Hm.out.1 Hm.out.2 (by omega) (by omega)).mono ?_
  rw [Hy.out]
  rintro e w1 ⟨rfl, rfl⟩
  go_wp2_with fail
  clear hN hM hwN hwM hx0 hx1 hy0 hy1 Hx Hy Hn Hm HL
  refine (matrix_i D.out rfl rfl (n := N) (m := MM) (by omega) (by omega)).mono ?_
  rintro e w1 ⟨⟨vB, z, rfl, h, b, rfl, hs⟩, hD, hG⟩
  replace BB := Lib.hid (BB.out.grown hG BB.out.size (fun k hk => by cases hk; exact Nat.le_refl _))
  have MB := Lib.hid (IsM.stb.le h (m := w.heap.size + 1) (by have h1 := (IsD.lt D.out); omega))
  have HDb := Lib.hid hs
  replace D := Lib.hid hD
  clear h hs hD hG
  go_wp2_with fail
  refine (vectorOf_i D.out rfl (n := N) (by omega)).mono ?_
  rintro e w2 ⟨⟨vU, z, rfl, h, u, rfl, hl, hs⟩, hD, hG⟩
  replace BB := Lib.hid (BB.out.grown hG BB.out.size (fun k hk => by cases hk; exact Nat.le_refl _))
  replace MB := Lib.hid (IsM.stb.old (IsM.stb.drawn MB.out hG HG.out))
  have V := Lib.hid (IsV.stb.old h)
  have HLu := Lib.hid hl
  have HSu := Lib.hid hs
  replace D := Lib.hid hD
  clear h hl hs hD hG
  obtain ⟨s, hs⟩ : ∃ s, s = runK N (MM + 1) (zbj (zdr b u N)) MM := ⟨_, rfl⟩
  have HS := Lib.hid hs
  clear hs
  have HNS : Hid (noneS s N MM ∨ ¬ noneS s N MM) := Classical.em _
  go_wp2_with fail
  rcases HNS.out with hno | hno
  · refine (solve_no MB.out V.out (Bru.next HB.out BB.out) HDb.out HSu.out HLu.out hN1 hN4 hM1 hM4 HS.out hno).mono ?_
    rintro e w3 ⟨rfl, hb⟩
    replace BB := Lib.hid (zaa BB.out hb)
    replace MB := Lib.hid (IsM.stb.next MB.out hb)
    replace V := Lib.hid (IsV.stb.next V.out hb)
    replace D := Lib.hid (D.out.next hb (IsD.lt D.out))
    obtain ⟨sT, hsT⟩ : ∃ s, s = runK MM N (zbj (zdx b MM)) N := ⟨_, rfl⟩
    have HT := Lib.hid hsT
    have HQ := Lib.hid (solve_not HS.out hsT HDb.out.len HLu.out HDb.out.row hno)
    have HKS := Lib.hid (kerT_sz HDb.out hN4 hsT)
    have HSu1 := Lib.hid (drawn_szV HSu.out)
    obtain ⟨nk, hnk⟩ : ∃ x, x = (kerQ sT N N).length := ⟨_, rfl⟩
    have HNK := Lib.hid hnk
    clear hsT hnk hno hb
    go_wp2_with fail
    refine (turn_d MB.out (Bru.next HB.out BB.out) HDb.out hN1 hN4 hM4).mono ?_
    rintro e w4 ⟨⟨vT, rfl, hT⟩, hb⟩
    replace BB := Lib.hid (zaa BB.out hb)
    replace V := Lib.hid (IsV.stb.next V.out hb)
    replace D := Lib.hid (D.out.next hb (IsD.lt D.out))
    have MT := Lib.hid hT
    clear hT hb MB
    go_wp2_with fail
    refine (kerT_d MT.out (Bru.next HB.out BB.out) HDb.out hN1 hN4 hM1 hM4 HT.out).mono ?_
    rintro e w5 ⟨⟨vK, rfl, hK⟩, hb⟩
    replace BB := Lib.hid (zaa BB.out hb)
    replace V := Lib.hid (IsV.stb.next V.out hb)
    replace D := Lib.hid (D.out.next hb (IsD.lt D.out))
    have KQ := Lib.hid hK
    obtain ⟨KA, cK, rfl, _⟩ := zca hK
    rw [zbs, ← HNK.out] at KQ ⊢
    have hnk9 : nk ≤ 4 := by rw [HNK.out]; exact Nat.le_trans (kerQ_len _ _ _) hN4
    clear hK hb MT
    go_wp2_with fail
    go_loopw [18, 19] (fun ff ii wr => ∃ (i : Nat) (fb : Bool), i ≤ nk ∧ ii = .int .i64 (i : Int) ∧ ff = .bool fb ∧ Hid (fb = true ↔ ∃ t, t < i ∧ dotQ ((kerQ sT N N).getD t []) u ≠ 0) ∧ Below w5.heap.size w5 wr) (fun _ ii _ => nk - (intOf ii).toNat)
    case atStart => exact ⟨0, false, Nat.zero_le _, rfl, rfl, ⟨(fun h => by cases h), fun ⟨t, h, _⟩ => absurd h (Nat.not_lt_zero _)⟩, Below.refl _ _⟩
    case round =>
      obtain ⟨wo, rfl⟩ : ∃ x, x = wr := ⟨_, rfl⟩
      obtain ⟨i, fb, hi, rfl, rfl, hf, hbw⟩ := hrel
      have HW := Lib.hid hbw
      have HF := Lib.hid hf.out
      clear hf
      rcases Nat.lt_or_ge i nk with hlt | hge
      · obtain ⟨x, hx⟩ : ∃ x, (kerQ sT N N)[i]? = some x := ⟨_, List.getElem?_eq_getElem (by rw [← HNK.out]; exact hlt)⟩
        have hmem := List.mem_of_getElem? hx
        have hxl : x.length = N := by
          obtain ⟨f, _, _, e⟩ := kerQ_mem N x hmem
          rw [e, kerTo_len]
        have hxs := HKS.out x hmem
        have hxd : (kerQ sT N N).getD i [] = x := by rw [List.getD_eq_getElem?_getD, hx]; rfl
        have hkr : (rawM (kerQ sT N N))[i]? = some (rawV x) := by rw [rawM, List.getElem?_map, hx]; rfl
        obtain ⟨bK, oK, Pk, kk, eKA, hSbK, elk, ek⟩ := zcr (IsM.stb.next KQ.out hbw) hkr
        subst eKA
        rw [zbi, hxl] at elk ek
        obtain ⟨dq, hdq⟩ : ∃ d, d = dotQ x u := ⟨_, rfl⟩
        have Elk := Lib.hid elk
        have Vo := Lib.hid (IsV.stb.next V.out hbw)
        have Hxl := Lib.hid hxl
        have Hxs := Lib.hid hxs
        have Hxd := Lib.hid hxd
        have Hdq := Lib.hid hdq
        have Hlt := Lib.hid hlt
        have hi0 : (0 : Int) ≤ (i : Int) := by omega
        have hi9 : (i : Int) < (nk : Int) := by omega
        clear hx hmem hxl hxs hxd hkr elk hSbK hbw hlt hdq
        go_wp2_with fail
        refine (dot_d Elk.out Vo.out (Bru.next HB.out (zaa BB.out HW.out)) Hxl.out hN4 HLu.out Hxs.out HSu1.out Hdq.out).mono ?_
        rintro e w6 ⟨⟨vd, rfl, h⟩, hb⟩
        have HW6 := Lib.hid (zaa HW.out hb)
        obtain ⟨P1, k1, O1, l1, rfl, _, _⟩ := h
        obtain ⟨z, hz⟩ : ∃ z, z = (raw dq).num.length := ⟨_, rfl⟩
        rw [← hz]
        obtain ⟨w7, hx7, hb7, r7, _⟩ := zcf w6 #[.bool (raw dq).neg, .slice P1 z k1, .slice O1 (raw dq).den.length l1] 50
        have HW7 := Lib.hid (zaa HW6.out hb7)
        obtain ⟨c0, c1, c2⟩ := zad r7
        have Hz : Hid (0 < z ↔ dq ≠ 0) := by rw [Hid, hz]; exact limQ_pos
        have HN : ∀ g : Bool, (g = true ↔ dq ≠ 0) → Hid ((fb || g) = true ↔ ∃ t, t < i + 1 ∧ dotQ ((kerQ sT N N).getD t []) u ≠ 0) := by
          intro g hg
          have h1 := HF.out
          constructor
          · intro h
            rcases Bool.or_eq_true_iff.1 h with h | h
            · obtain ⟨t, h2, h3⟩ := h1.1 h
              exact ⟨t, by omega, h3⟩
            · exact ⟨i, by omega, by rw [Hxd.out, ← Hdq.out]; exact hg.1 h⟩
          · rintro ⟨t, h2, h3⟩
            by_cases e : t = i
            · subst e
              rw [Hxd.out, ← Hdq.out] at h3
              rw [hg.2 h3, Bool.or_true]
            · rw [h1.2 ⟨t, by omega, h3⟩, Bool.true_or]
        have HNN := Lib.hid HN
        clear hb r7 hb7 hz ek HN
        cases fb
        · rcases Nat.eq_zero_or_pos z with hz0 | hz0
          · have hg := HNN.out false ⟨(fun h => by cases h), fun h => absurd (Hz.out.2 h) (by omega)⟩
            subst hz0
            have HGG := Lib.hid hg.out
            clear hg
            go_wp2_with fail
            clear hx7
            go_roundw
            case rel => exact ⟨i + 1, false, Hlt.out, by go_num, rfl, HGG.out, HW7.out⟩
            case measure => have := Hlt.out; simp [intOf]; omega
          · have hg := HNN.out true ⟨fun _ => Hz.out.1 hz0, fun _ => rfl⟩
            have HGG := Lib.hid hg.out
            have hz1 : (0 : Int) < (z : Int) := by omega
            clear hg
            go_wp2_with fail
            clear hx7
            go_roundw
            case rel => exact ⟨i + 1, true, Hlt.out, by go_num, rfl, HGG.out, HW7.out⟩
            case measure => have := Hlt.out; simp [intOf]; omega
        · have hg : Hid (true = true ↔ ∃ t, t < i + 1 ∧ dotQ ((kerQ sT N N).getD t []) u ≠ 0) := by
            have h1 := HF.out
            obtain ⟨t, h2, h3⟩ := h1.1 rfl
            exact ⟨fun _ => ⟨t, by omega, h3⟩, fun _ => rfl⟩
          have HGG := Lib.hid hg.out
          clear hg
          go_wp2_with fail
          clear hx7
          go_roundw
          case rel => exact ⟨i + 1, true, Hlt.out, by go_num, rfl, ⟨fun _ => HGG.out.1 (by trivial), fun _ => rfl⟩, HW7.out⟩
          case measure => have := Hlt.out; simp [intOf]; omega
      · obtain rfl : nk = i := by omega
        obtain rfl : fb = true := by
          obtain ⟨q, hq, hne⟩ := HQ.out
          obtain ⟨t, ht⟩ := List.getElem?_of_mem hq
          exact HF.out.2 ⟨t, by rw [HNK.out]; exact (List.getElem?_eq_some_iff.1 ht).1, by rw [List.getD_eq_getElem?_getD, ht]; exact hne⟩
        have hnn : ¬ nk < nk := by omega
        have hb := HW.out
        replace BB := Lib.hid (zaa BB.out hb)
        replace D := Lib.hid (D.out.next hb (IsD.lt D.out))
        clear hb hbw HF HQ HKS KQ V HW
        go_wp2_with fail
        refine (matrix_i D.out rfl rfl (n := N) (m := N) (by omega) (by omega)).mono ?_
        rintro e wq ⟨⟨vQ, z, rfl, h, c, rfl, hs⟩, hD, hG⟩
        replace BB := Lib.hid (BB.out.grown hG BB.out.size (fun k hk => by cases hk; exact Nat.le_refl _))
        have MC := Lib.hid (IsM.stb.old h)
        have HDc := Lib.hid hs
        clear h hs hD hG D
        obtain ⟨s2, hs2⟩ : ∃ s, s = runK N (N + N) (zbj (zcg c N N)) N := ⟨_, rfl⟩
        obtain ⟨s3, hs3⟩ : ∃ s, s = runK N N (zbj c) N := ⟨_, rfl⟩
        have hcount := inv_ker hs2 hs3 HDc.out.len HDc.out.row
        obtain ⟨nk, hnk⟩ : ∃ x, x = (kerQ s3 N N).length := ⟨_, rfl⟩
        rw [← hnk] at hcount
        have HS2 := Lib.hid hs2
        have HS3 := Lib.hid hs3
        have HNK := Lib.hid hnk
        have HC := Lib.hid hcount
        clear hs2 hs3 hnk hcount
        have HP2 : Hid (s2.piv.length < N ∨ N ≤ s2.piv.length) := Nat.lt_or_ge _ _
        go_wp2_with fail
        rcases HP2.out with hp | hp
        · refine (inverse_no MC.out (Bru.next HB.out BB.out) HDc.out hN1 hN4 HS2.out hp).mono ?_
          rintro e wi ⟨rfl, hb⟩
          replace BB := Lib.hid (zaa BB.out hb)
          replace MC := Lib.hid (IsM.stb.next MC.out hb)
          have hk0 : ¬ (nk = 0) := by have := HC.out; omega
          have hk1 : ((nk : Int) == 0) = false := beq_eq_false_iff_ne.2 (by omega)
          clear hb hp
          go_wp2_with fail
          refine (ker_d MC.out (Bru.next HB.out BB.out) HDc.out hN1 (by omega) hN1 (by omega) HS3.out).mono ?_
          rintro e wk ⟨⟨vK, rfl, hK⟩, hb⟩
          replace BB := Lib.hid (zaa BB.out hb)
          obtain ⟨KA, cK, rfl, _⟩ := zca hK
          rw [zbs, ← HNK.out]
          clear hK hb
          go_wp2_with fail
          refine (awake3_l (Bru.next HB.out BB.out)).mono ?_
          rintro e wz ⟨rfl, hb⟩
          go_wp2_with fail
          go_ret
          exact ⟨rfl, zaa BB.out hb⟩
        · obtain ⟨e1, e2⟩ := inv_both HS2.out HDc.out.len HDc.out.row hp
          have HE1 := Lib.hid e1
          have HE2 := Lib.hid e2
          clear e1 e2
          refine (inverse_yes MC.out (Bru.next HB.out BB.out) HDc.out hN1 hN4 HS2.out hp).mono ?_
          rintro e wi ⟨⟨vI, rfl, hI⟩, hb⟩
          replace BB := Lib.hid (zaa BB.out hb)
          replace MC := Lib.hid (IsM.stb.next MC.out hb)
          have MI := Lib.hid hI
          obtain ⟨IA, cI, rfl, _⟩ := zca hI
          have hk0 : nk = 0 := by have := HC.out; have := Nat.le_antisymm (by omega : s2.piv.length ≤ N) hp; omega
          have hk1 : ((nk : Int) == 0) = true := by rw [hk0]; rfl
          have HSI := Lib.hid (inv_sz HDc.out (by omega) HS2.out)
          have HSC : Hid (∀ r ∈ c, ∀ q ∈ r, Sz q 13) := le_szM (HDc.out.sz (by omega)) (by omega)
          rw [zbs, invQ_len'] at MI ⊢
          clear hb hp hI
          go_wp2_with fail
          refine (ker_d MC.out (Bru.next HB.out BB.out) HDc.out hN1 (by omega) hN1 (by omega) HS3.out).mono ?_
          rintro e wk ⟨⟨vK, rfl, hK⟩, hb⟩
          replace BB := Lib.hid (zaa BB.out hb)
          replace MC := Lib.hid (IsM.stb.next MC.out hb)
          replace MI := Lib.hid (IsM.stb.next MI.out hb)
          obtain ⟨KA, cK, rfl, _⟩ := zca hK
          rw [zbs, ← HNK.out]
          clear hK hb
          go_wp2_with fail
          clear hk0 hk1
          refine (mul_d MC.out MI.out (Bru.next HB.out BB.out) hN1 hN4 HDc.out.len HDc.out.row (invQ_len' _ _) (invQ_row' _ _) HSC.out HSI.out HE1.out).mono ?_
          rintro e wm ⟨⟨vO, rfl, hO⟩, hb⟩
          replace BB := Lib.hid (zaa BB.out hb)
          replace MC := Lib.hid (IsM.stb.next MC.out hb)
          replace MI := Lib.hid (IsM.stb.next MI.out hb)
          have MO := Lib.hid hO
          obtain ⟨OA, cO, rfl, _⟩ := zca hO
          rw [zbs, idQ_len] at MO ⊢
          clear hb hO
          go_wp2_with fail
          refine (mul_d MI.out MC.out (Bru.next HB.out BB.out) hN1 hN4 (invQ_len' _ _) (invQ_row' _ _) HDc.out.len HDc.out.row HSI.out HSC.out HE2.out).mono ?_
          rintro e wm2 ⟨⟨vO2, rfl, hO2⟩, hb⟩
          replace BB := Lib.hid (zaa BB.out hb)
          replace MO := Lib.hid (IsM.stb.next MO.out hb)
          have MO2 := Lib.hid hO2
          clear hb hO2 MI MC
          have eN : ((N : Int) != (N : Int)) = false := by simp
          go_wp2_with fail
          refine (same_m MO.out MO2.out).mono ?_
          rw [decide_eq_true rfl]
          rintro e wr0 ⟨rfl, hb⟩
          replace BB := Lib.hid (zaa BB.out hb)
          replace MO := Lib.hid (IsM.stb.next MO.out hb)
          clear hb MO2
          go_wp2_with fail
          go_loopw [29] (fun ii wr => ∃ i : Nat, i ≤ N ∧ ii = .int .i64 (i : Int) ∧ Below wr0.heap.size wr0 wr) (fun ii _ => N - (intOf ii).toNat)
          case atStart => exact ⟨0, Nat.zero_le _, rfl, Below.refl _ _⟩
          case round =>
            obtain ⟨wo, rfl⟩ : ∃ x, x = wr := ⟨_, rfl⟩
            obtain ⟨i, hi, rfl, hbw⟩ := hrel
            have HW := Lib.hid hbw
            rcases Nat.lt_or_ge i N with hlt | hge
            · have hir : (rawM (idQ N))[i]? = some (rawV (zbv i N)) := by rw [rawM, List.getElem?_map, idQ, List.getElem?_map, List.getElem?_range hlt]; rfl
              have MOi := Lib.hid (IsM.stb.next MO.out hbw)
              obtain ⟨bF, oF, Pa, ka, eFA, hSba, ela, ea⟩ := zcr MOi.out hir
              subst eFA
              rw [zbi, unitTo_len] at ela ea
              have Ela := Lib.hid ela
              have Ea := Lib.hid ea
              have Hlt := Lib.hid hlt
              have hii : (0 : Int) ≤ (i : Int) := by omega
              have hi9 : (i : Int) < (N : Int) := by omega
              clear ela ea hir hSba hbw hlt
              go_wp2_with fail
              go_loopw [30] (fun jj wr => ∃ j : Nat, j ≤ N ∧ jj = .int .i64 (j : Int) ∧ Below wo.heap.size wo wr) (fun jj _ => N - (intOf jj).toNat)
              case atStart => exact ⟨0, Nat.zero_le _, rfl, Below.refl _ _⟩
              case round =>
                obtain ⟨wj, rfl⟩ : ∃ x, x = wr := ⟨_, rfl⟩
                obtain ⟨j, hj, rfl, hbj⟩ := hrel
                have HWj := Lib.hid hbj
                have eaj := zac hbj Ea.out
                rcases Nat.lt_or_ge j N with hlt | hge
                · obtain ⟨zo, hzo⟩ : ∃ z : Int, z = if i = j then 1 else 0 := ⟨_, rfl⟩
                  obtain ⟨r, hr⟩ : ∃ r, r = raw (if i = j then (1 : Rat) else 0) := ⟨_, rfl⟩
                  have hrow : (rawV (zbv i N))[j]? = some r := by rw [rawV, List.getElem?_map, unitTo_at hlt, hr]; rfl
                  obtain ⟨bR, oR, X1, X2, X3, X4, eR, _, elr, c0, c1, c2⟩ := zdn (IsV.stb.next Ela.out hbj) hrow
                  subst eR
                  have ELR := Lib.hid elr
                  have E := Lib.hid (And.intro eaj (And.intro c0 (And.intro c1 c2)))
                  have Hlj := Lib.hid hlt
                  have hj0 : (0 : Int) ≤ (j : Int) := by omega
                  have hj9 : (j : Int) < (N : Int) := by omega
                  have cr := zbr
                  obtain ⟨q1, hq1⟩ : ∃ q, q = zdj zo 1 := ⟨_, rfl⟩
                  have Hq1 := Lib.hid hq1
                  have Hzo : Hid (zo = 1 ∨ zo = 0) := by rw [Hid, hzo]; split; exact .inl rfl; exact .inr rfl
                  have Hrq : Hid (r = raw q1) := by rw [Hid, hr, hq1, hzo]; split <;> rfl
                  clear hr hq1 elr hrow hbj hlt c0 c1 c2
                  by_cases hij : i = j
                  · rw [if_pos hij] at hzo
                    subst hzo
                    obtain rfl : i = j := hij
                    go_wp2_with fail
                    have HS : Hid (∀ W : World, Below wj.heap.size wj W → W.cell? ⟨bF, oF + i, none⟩ = some (.slice (some ⟨bR, oR, none⟩) N ka) ∧ W.cell? ⟨bR, oR + i * 3, none⟩ = some (.bool r.neg) ∧ W.cell? ⟨bR, oR + i * 3 + 1, none⟩ = some (.slice X1 r.num.length X2) ∧ W.cell? ⟨bR, oR + i * 3 + 2, none⟩ = some (.slice X3 r.den.length X4)) := fun W hW => ⟨zac hW E.out.1, zac hW E.out.2.1, zac hW E.out.2.2.1, zac hW E.out.2.2.2⟩
                    have D4 : Hid (∀ W : World, Below wj.heap.size wj W → Calls Tryd.prog 21 #[.int .i64 1, .int .i64 1] W (RetQ W q1)) := fun W hW => by rw [Hq1.out]; exact ratof_q (a := 1) (b := 1) (by decide) (by decide) (by decide)
                    refine wp_region_noPanic ?_
                    refine wp_region_held_drew (S := fun w' => w'.cell? ⟨bF, oF + i, none⟩ = some (.slice (some ⟨bR, oR, none⟩) N ka) ∧ w'.cell? ⟨bR, oR + i * 3, none⟩ = some (.bool r.neg) ∧ w'.cell? ⟨bR, oR + i * 3 + 1, none⟩ = some (.slice X1 r.num.length X2) ∧ w'.cell? ⟨bR, oR + i * 3 + 2, none⟩ = some (.slice X3 r.den.length X4)) (by kernel_rfl) (HS.out _ (by (repeat (first | exact Below.refl _ _ | assumption | refine zae ?_ _ | refine zaf ?_ | refine zag ?_ ?_ _ _ _ | refine zai ?_ (by omega) | refine zaa ?_ (by assumption))); (first | done | fail))) (fun hHeld => ?_)
                    refine zcx (i := 0) (v := ?_) (some 202) rfl rfl (by kernel_rfl) (by kernel_rfl) (by kernel_rfl) (by rfl) (fun _ _ _ h => h) ?_ (by assumption) ?_
                    rotate_left 1
                    focus (intro w hSw; (try dsimp only at hSw); go_simp; (try (with_reducible rfl)))
                    simp only [Act.put, List.setIfInBounds_toArray, List.set_cons_zero, List.set_cons_succ]
                    refine zcx (i := 1) (v := ?_) (some 203) rfl rfl (by kernel_rfl) (by kernel_rfl) (by kernel_rfl) (by rfl) (fun _ _ _ h => h) ?_ (by assumption) ?_
                    rotate_left 1
                    focus (intro w hSw; (try dsimp only at hSw); go_simp; (try (with_reducible rfl)))
                    simp only [Act.put, List.setIfInBounds_toArray, List.set_cons_zero, List.set_cons_succ]
                    refine zcx (i := 2) (v := ?_) (some 204) rfl rfl (by kernel_rfl) (by kernel_rfl) (by kernel_rfl) (by rfl) (fun _ _ _ h => h) ?_ (by assumption) ?_
                    rotate_left 1
                    focus (intro w hSw; (try dsimp only at hSw); go_simp; (try (with_reducible rfl)))
                    simp only [Act.put, List.setIfInBounds_toArray, List.set_cons_zero, List.set_cons_succ]
                    refine zcx (i := 3) (v := ?_) (some 205) rfl rfl (by kernel_rfl) (by kernel_rfl) (by kernel_rfl) (by rfl) (fun _ _ _ h => h) ?_ (by assumption) ?_
                    rotate_left 1
                    focus (intro w hSw; (try dsimp only at hSw); go_simp; (try (with_reducible rfl)))
                    simp only [Act.put, List.setIfInBounds_toArray, List.set_cons_zero, List.set_cons_succ]
                    refine zcx (i := 4) (v := ?_) (some 206) rfl rfl (by kernel_rfl) (by kernel_rfl) (by kernel_rfl) (by rfl) (fun _ _ _ h => h) ?_ (by assumption) ?_
                    rotate_left 1
                    focus (intro w hSw; (try dsimp only at hSw); go_simp; (try (with_reducible rfl)))
                    simp only [Act.put, List.setIfInBounds_toArray, List.set_cons_zero, List.set_cons_succ]
                    refine zcx (i := 5) (v := ?_) (some 207) rfl rfl (by kernel_rfl) (by kernel_rfl) (by kernel_rfl) (by rfl) (fun _ _ _ h => h) ?_ (by assumption) ?_
                    rotate_left 1
                    focus (intro w hSw; (try dsimp only at hSw); go_simp; (try (with_reducible rfl)))
                    simp only [Act.put, List.setIfInBounds_toArray, List.set_cons_zero, List.set_cons_succ]
                    refine zcx (i := 6) (v := ?_) (some 208) rfl rfl (by kernel_rfl) (by kernel_rfl) (by kernel_rfl) (by rfl) (fun _ _ _ h => h) ?_ (by assumption) ?_
                    rotate_left 1
                    focus (intro w hSw; (try dsimp only at hSw); go_simp; (try (with_reducible rfl)))
                    simp only [Act.put, List.setIfInBounds_toArray, List.set_cons_zero, List.set_cons_succ]
                    refine zcx (i := 7) (v := ?_) (some 209) rfl rfl (by kernel_rfl) (by kernel_rfl) (by kernel_rfl) (by rfl) (fun _ _ _ h => h) ?_ (by assumption) ?_
                    rotate_left 1
                    focus (intro w hSw; (try dsimp only at hSw); go_simp; (try (with_reducible rfl)))
                    simp only [Act.put, List.setIfInBounds_toArray, List.set_cons_zero, List.set_cons_succ]
                    refine wpAnyH_ready (rs := [8]) (by kernel_rfl) (by simp) ?_
                    refine AllReadyH.cons rfl (fun K hK => ?_) AllReadyH.nil
                    go_simp
                    go_at_call 21
                    (with_reducible refine Calls.mono (D4.out _ (by (repeat (first | exact Below.refl _ _ | assumption | refine zae ?_ _ | refine zaf ?_ | refine zag ?_ ?_ _ _ _ | refine zai ?_ (by omega) | refine zaa ?_ (by assumption))); (first | done | fail))) ?_)
                    rintro e w4 ⟨⟨v4, rfl, hv4⟩, hb4⟩
                    have V4 := Lib.hid (IsQ.stb.old hv4)
                    obtain ⟨s4, P4, k4, O4, l4, rfl, _, _, _⟩ := zam hv4
                    have D5 : Hid (∀ W : World, Below w4.heap.size w4 W → Calls Tryd.prog 20 #[.agg #[.bool r.neg, .slice X1 r.num.length X2, .slice X3 r.den.length X4], .agg #[.bool s4, .slice P4 (lim q1.num.natAbs).length k4, .slice O4 (lim q1.den).length l4]] W (fun e w' => e = .returned (.bool true) ∧ Below W.heap.size W w')) := fun W hW => by have h := same_r (IsR.stb.next ELR.out (by (repeat (first | exact Below.refl _ _ | assumption | refine zae ?_ _ | refine zaf ?_ | refine zag ?_ ?_ _ _ _ | refine zai ?_ (by omega) | refine zaa ?_ (by assumption))); (first | done | fail))) (IsQ.stb.next V4.out hW); rw [decide_eq_true Hrq.out] at h; exact h
                    go_wp2_with fail
                    refine hK.out _ _ (HS.out _ (by (repeat (first | exact Below.refl _ _ | assumption | refine zae ?_ _ | refine zaf ?_ | refine zag ?_ ?_ _ _ _ | refine zai ?_ (by omega) | refine zaa ?_ (by assumption))); (first | done | fail))) (fun hHeld => ?_)
                    clear hK K
                    refine wpAnyH_ready (rs := [9]) (by kernel_rfl) (by simp) ?_
                    refine AllReadyH.cons rfl (fun K hK => ?_) AllReadyH.nil
                    go_simp
                    go_at_call 20
                    (with_reducible refine Calls.mono (D5.out _ (by (repeat (first | exact Below.refl _ _ | assumption | refine zae ?_ _ | refine zaf ?_ | refine zag ?_ ?_ _ _ _ | refine zai ?_ (by omega) | refine zaa ?_ (by assumption))); (first | done | fail))) ?_)
                    rintro e w5 ⟨rfl, hb5⟩
                    go_wp2_with fail
                    refine hK.out _ _ (HS.out _ (by (repeat (first | exact Below.refl _ _ | assumption | refine zae ?_ _ | refine zaf ?_ | refine zag ?_ ?_ _ _ _ | refine zai ?_ (by omega) | refine zaa ?_ (by assumption))); (first | done | fail))) (fun hHeld => ?_)
                    clear hK K
                    refine zcx (i := 10) (v := ?_) (some 212) rfl rfl (by kernel_rfl) (by kernel_rfl) (by kernel_rfl) (by rfl) (fun _ _ _ h => h) ?_ (by assumption) ?_
                    rotate_left 1
                    focus (intro w hSw; (try dsimp only at hSw); go_simp; (try (with_reducible rfl)))
                    simp only [Act.put, List.setIfInBounds_toArray, List.set_cons_zero, List.set_cons_succ]
                    refine wpAnyH_done (by kernel_rfl) ?_ _
                    refine NoPanic.normal ?_
                    go_wp2_with fail
                    go_roundw
                    case rel => exact ⟨i + 1, Hlj.out, by go_num, zaa HWj.out (by (repeat (first | exact Below.refl _ _ | assumption | refine zae ?_ _ | refine zaf ?_ | refine zag ?_ ?_ _ _ _ | refine zai ?_ (by omega) | refine zaa ?_ (by assumption))); (first | done | fail))⟩
                    case measure => have := Hlj.out; simp [intOf]; omega
                  · rw [if_neg hij] at hzo
                    subst hzo
                    have hij1 : ((i : Int) == (j : Int)) = false := beq_eq_false_iff_ne.2 (by omega)
                    go_wp2_with fail
                    have HS : Hid (∀ W : World, Below wj.heap.size wj W → W.cell? ⟨bF, oF + i, none⟩ = some (.slice (some ⟨bR, oR, none⟩) N ka) ∧ W.cell? ⟨bR, oR + j * 3, none⟩ = some (.bool r.neg) ∧ W.cell? ⟨bR, oR + j * 3 + 1, none⟩ = some (.slice X1 r.num.length X2) ∧ W.cell? ⟨bR, oR + j * 3 + 2, none⟩ = some (.slice X3 r.den.length X4)) := fun W hW => ⟨zac hW E.out.1, zac hW E.out.2.1, zac hW E.out.2.2.1, zac hW E.out.2.2.2⟩
                    have D4 : Hid (∀ W : World, Below wj.heap.size wj W → Calls Tryd.prog 21 #[.int .i64 0, .int .i64 1] W (RetQ W q1)) := fun W hW => by rw [Hq1.out]; exact ratof_q (a := 0) (b := 1) (by decide) (by decide) (by decide)
                    refine wp_region_noPanic ?_
                    refine wp_region_held_drew (S := fun w' => w'.cell? ⟨bF, oF + i, none⟩ = some (.slice (some ⟨bR, oR, none⟩) N ka) ∧ w'.cell? ⟨bR, oR + j * 3, none⟩ = some (.bool r.neg) ∧ w'.cell? ⟨bR, oR + j * 3 + 1, none⟩ = some (.slice X1 r.num.length X2) ∧ w'.cell? ⟨bR, oR + j * 3 + 2, none⟩ = some (.slice X3 r.den.length X4)) (by kernel_rfl) (HS.out _ (by (repeat (first | exact Below.refl _ _ | assumption | refine zae ?_ _ | refine zaf ?_ | refine zag ?_ ?_ _ _ _ | refine zai ?_ (by omega) | refine zaa ?_ (by assumption))); (first | done | fail))) (fun hHeld => ?_)
                    refine zcx (i := 0) (v := ?_) (some 202) rfl rfl (by kernel_rfl) (by kernel_rfl) (by kernel_rfl) (by rfl) (fun _ _ _ h => h) ?_ (by assumption) ?_
                    rotate_left 1
                    focus (intro w hSw; (try dsimp only at hSw); go_simp; (try (with_reducible rfl)))
                    simp only [Act.put, List.setIfInBounds_toArray, List.set_cons_zero, List.set_cons_succ]
                    refine zcx (i := 1) (v := ?_) (some 203) rfl rfl (by kernel_rfl) (by kernel_rfl) (by kernel_rfl) (by rfl) (fun _ _ _ h => h) ?_ (by assumption) ?_
                    rotate_left 1
                    focus (intro w hSw; (try dsimp only at hSw); go_simp; (try (with_reducible rfl)))
                    simp only [Act.put, List.setIfInBounds_toArray, List.set_cons_zero, List.set_cons_succ]
                    refine zcx (i := 2) (v := ?_) (some 204) rfl rfl (by kernel_rfl) (by kernel_rfl) (by kernel_rfl) (by rfl) (fun _ _ _ h => h) ?_ (by assumption) ?_
                    rotate_left 1
                    focus (intro w hSw; (try dsimp only at hSw); go_simp; (try (with_reducible rfl)))
                    simp only [Act.put, List.setIfInBounds_toArray, List.set_cons_zero, List.set_cons_succ]
                    refine zcx (i := 3) (v := ?_) (some 205) rfl rfl (by kernel_rfl) (by kernel_rfl) (by kernel_rfl) (by rfl) (fun _ _ _ h => h) ?_ (by assumption) ?_
                    rotate_left 1
                    focus (intro w hSw; (try dsimp only at hSw); go_simp; (try (with_reducible rfl)))
                    simp only [Act.put, List.setIfInBounds_toArray, List.set_cons_zero, List.set_cons_succ]
                    refine zcx (i := 4) (v := ?_) (some 206) rfl rfl (by kernel_rfl) (by kernel_rfl) (by kernel_rfl) (by rfl) (fun _ _ _ h => h) ?_ (by assumption) ?_
                    rotate_left 1
                    focus (intro w hSw; (try dsimp only at hSw); go_simp; (try (with_reducible rfl)))
                    simp only [Act.put, List.setIfInBounds_toArray, List.set_cons_zero, List.set_cons_succ]
                    refine zcx (i := 5) (v := ?_) (some 207) rfl rfl (by kernel_rfl) (by kernel_rfl) (by kernel_rfl) (by rfl) (fun _ _ _ h => h) ?_ (by assumption) ?_
                    rotate_left 1
                    focus (intro w hSw; (try dsimp only at hSw); go_simp; (try (with_reducible rfl)))
                    simp only [Act.put, List.setIfInBounds_toArray, List.set_cons_zero, List.set_cons_succ]
                    refine zcx (i := 6) (v := ?_) (some 208) rfl rfl (by kernel_rfl) (by kernel_rfl) (by kernel_rfl) (by rfl) (fun _ _ _ h => h) ?_ (by assumption) ?_
                    rotate_left 1
                    focus (intro w hSw; (try dsimp only at hSw); go_simp; (try (with_reducible rfl)))
                    simp only [Act.put, List.setIfInBounds_toArray, List.set_cons_zero, List.set_cons_succ]
                    refine zcx (i := 7) (v := ?_) (some 209) rfl rfl (by kernel_rfl) (by kernel_rfl) (by kernel_rfl) (by rfl) (fun _ _ _ h => h) ?_ (by assumption) ?_
                    rotate_left 1
                    focus (intro w hSw; (try dsimp only at hSw); go_simp; (try (with_reducible rfl)))
                    simp only [Act.put, List.setIfInBounds_toArray, List.set_cons_zero, List.set_cons_succ]
                    refine wpAnyH_ready (rs := [8]) (by kernel_rfl) (by simp) ?_
                    refine AllReadyH.cons rfl (fun K hK => ?_) AllReadyH.nil
                    go_simp
                    go_at_call 21
                    (with_reducible refine Calls.mono (D4.out _ (by (repeat (first | exact Below.refl _ _ | assumption | refine zae ?_ _ | refine zaf ?_ | refine zag ?_ ?_ _ _ _ | refine zai ?_ (by omega) | refine zaa ?_ (by assumption))); (first | done | fail))) ?_)
                    rintro e w4 ⟨⟨v4, rfl, hv4⟩, hb4⟩
                    have V4 := Lib.hid (IsQ.stb.old hv4)
                    obtain ⟨s4, P4, k4, O4, l4, rfl, _, _, _⟩ := zam hv4
                    have D5 : Hid (∀ W : World, Below w4.heap.size w4 W → Calls Tryd.prog 20 #[.agg #[.bool r.neg, .slice X1 r.num.length X2, .slice X3 r.den.length X4], .agg #[.bool s4, .slice P4 (lim q1.num.natAbs).length k4, .slice O4 (lim q1.den).length l4]] W (fun e w' => e = .returned (.bool true) ∧ Below W.heap.size W w')) := fun W hW => by have h := same_r (IsR.stb.next ELR.out (by (repeat (first | exact Below.refl _ _ | assumption | refine zae ?_ _ | refine zaf ?_ | refine zag ?_ ?_ _ _ _ | refine zai ?_ (by omega) | refine zaa ?_ (by assumption))); (first | done | fail))) (IsQ.stb.next V4.out hW); rw [decide_eq_true Hrq.out] at h; exact h
                    go_wp2_with fail
                    refine hK.out _ _ (HS.out _ (by (repeat (first | exact Below.refl _ _ | assumption | refine zae ?_ _ | refine zaf ?_ | refine zag ?_ ?_ _ _ _ | refine zai ?_ (by omega) | refine zaa ?_ (by assumption))); (first | done | fail))) (fun hHeld => ?_)
                    clear hK K
                    refine wpAnyH_ready (rs := [9]) (by kernel_rfl) (by simp) ?_
                    refine AllReadyH.cons rfl (fun K hK => ?_) AllReadyH.nil
                    go_simp
                    go_at_call 20
                    (with_reducible refine Calls.mono (D5.out _ (by (repeat (first | exact Below.refl _ _ | assumption | refine zae ?_ _ | refine zaf ?_ | refine zag ?_ ?_ _ _ _ | refine zai ?_ (by omega) | refine zaa ?_ (by assumption))); (first | done | fail))) ?_)
                    rintro e w5 ⟨rfl, hb5⟩
                    go_wp2_with fail
                    refine hK.out _ _ (HS.out _ (by (repeat (first | exact Below.refl _ _ | assumption | refine zae ?_ _ | refine zaf ?_ | refine zag ?_ ?_ _ _ _ | refine zai ?_ (by omega) | refine zaa ?_ (by assumption))); (first | done | fail))) (fun hHeld => ?_)
                    clear hK K
                    refine zcx (i := 10) (v := ?_) (some 212) rfl rfl (by kernel_rfl) (by kernel_rfl) (by kernel_rfl) (by rfl) (fun _ _ _ h => h) ?_ (by assumption) ?_
                    rotate_left 1
                    focus (intro w hSw; (try dsimp only at hSw); go_simp; (try (with_reducible rfl)))
                    simp only [Act.put, List.setIfInBounds_toArray, List.set_cons_zero, List.set_cons_succ]
                    refine wpAnyH_done (by kernel_rfl) ?_ _
                    refine NoPanic.normal ?_
                    go_wp2_with fail
                    go_roundw
                    case rel => exact ⟨j + 1, Hlj.out, by go_num, zaa HWj.out (by (repeat (first | exact Below.refl _ _ | assumption | refine zae ?_ _ | refine zaf ?_ | refine zag ?_ ?_ _ _ _ | refine zai ?_ (by omega) | refine zaa ?_ (by assumption))); (first | done | fail))⟩
                    case measure => have := Hlj.out; simp [intOf]; omega
                · obtain rfl : N = j := by omega
                  have hjj : ¬ N < N := by omega
                  clear hbj
                  go_wp2_with fail
                  go_roundw
                  case rel => exact ⟨i + 1, Hlt.out, by go_num, zaa HW.out HWj.out⟩
                  case measure => have := Hlt.out; simp [intOf]; omega
            · obtain rfl : N = i := by omega
              have hnn : ¬ N < N := by omega
              clear hbw
              go_wp2_with fail
              refine (awake3_l (Bru.next HB.out (zaa BB.out HW.out))).mono ?_
              rintro e wz ⟨rfl, hb⟩
              go_wp2_with fail
              go_ret
              exact ⟨rfl, zaa (zaa BB.out HW.out) hb⟩
  · have HE := Lib.hid (solve_ok HS.out HDb.out.len HLu.out HDb.out.row hno)
    have HSX := Lib.hid (sol_sz HDb.out (by omega) (by omega) HSu.out HS.out s.piv.length)
    refine (solve_yes MB.out V.out (Bru.next HB.out BB.out) HDb.out HSu.out HLu.out hN1 hN4 hM1 hM4 HS.out hno).mono ?_
    rintro e w3 ⟨⟨vX, rfl, hX⟩, hb⟩
    replace BB := Lib.hid (zaa BB.out hb)
    replace MB := Lib.hid (IsM.stb.next MB.out hb)
    replace V := Lib.hid (IsV.stb.next V.out hb)
    replace D := Lib.hid (D.out.next hb (IsD.lt D.out))
    have VX := Lib.hid hX
    clear hX hb hno
    go_wp2_with fail
    refine (apply_d MB.out VX.out (Bru.next HB.out BB.out) HDb.out.len HDb.out.row hN1 (by omega) (by omega) (solTo_len _ _ _) (fun r hr q hq => (HDb.out.sz (by omega) r hr q hq).le (by omega)) HSX.out).mono ?_
    rw [HE.out]
    rintro e w4 ⟨⟨vY, rfl, hY⟩, hb⟩
    replace BB := Lib.hid (zaa BB.out hb)
    replace V := Lib.hid (IsV.stb.next V.out hb)
    replace D := Lib.hid (D.out.next hb (IsD.lt D.out))
    have VY := Lib.hid hY
    clear hY hb MB VX
    go_wp2_with fail
    refine (same_v VY.out V.out).mono ?_
    rw [decide_eq_true rfl]
    rintro e w5 ⟨rfl, hb⟩
    replace BB := Lib.hid (zaa BB.out hb)
    replace D := Lib.hid (D.out.next hb (IsD.lt D.out))
    clear hb VY V
    go_wp2_with fail
    refine (matrix_i D.out rfl rfl (n := N) (m := N) (by omega) (by omega)).mono ?_
    rintro e wq ⟨⟨vQ, z, rfl, h, c, rfl, hs⟩, hD, hG⟩
    replace BB := Lib.hid (BB.out.grown hG BB.out.size (fun k hk => by cases hk; exact Nat.le_refl _))
    have MC := Lib.hid (IsM.stb.old h)
    have HDc := Lib.hid hs
    clear h hs hD hG D
    obtain ⟨s2, hs2⟩ : ∃ s, s = runK N (N + N) (zbj (zcg c N N)) N := ⟨_, rfl⟩
    obtain ⟨s3, hs3⟩ : ∃ s, s = runK N N (zbj c) N := ⟨_, rfl⟩
    have hcount := inv_ker hs2 hs3 HDc.out.len HDc.out.row
    obtain ⟨nk, hnk⟩ : ∃ x, x = (kerQ s3 N N).length := ⟨_, rfl⟩
    rw [← hnk] at hcount
    have HS2 := Lib.hid hs2
    have HS3 := Lib.hid hs3
    have HNK := Lib.hid hnk
    have HC := Lib.hid hcount
    clear hs2 hs3 hnk hcount
    have HP2 : Hid (s2.piv.length < N ∨ N ≤ s2.piv.length) := Nat.lt_or_ge _ _
    go_wp2_with fail
    rcases HP2.out with hp | hp
    · refine (inverse_no MC.out (Bru.next HB.out BB.out) HDc.out hN1 hN4 HS2.out hp).mono ?_
      rintro e wi ⟨rfl, hb⟩
      replace BB := Lib.hid (zaa BB.out hb)
      replace MC := Lib.hid (IsM.stb.next MC.out hb)
      have hk0 : ¬ (nk = 0) := by have := HC.out; omega
      have hk1 : ((nk : Int) == 0) = false := beq_eq_false_iff_ne.2 (by omega)
      clear hb hp
      go_wp2_with fail
      refine (ker_d MC.out (Bru.next HB.out BB.out) HDc.out hN1 (by omega) hN1 (by omega) HS3.out).mono ?_
      rintro e wk ⟨⟨vK, rfl, hK⟩, hb⟩
      replace BB := Lib.hid (zaa BB.out hb)
      obtain ⟨KA, cK, rfl, _⟩ := zca hK
      rw [zbs, ← HNK.out]
      clear hK hb
      go_wp2_with fail
      refine (awake3_l (Bru.next HB.out BB.out)).mono ?_
      rintro e wz ⟨rfl, hb⟩
      go_wp2_with fail
      go_ret
      exact ⟨rfl, zaa BB.out hb⟩
    · obtain ⟨e1, e2⟩ := inv_both HS2.out HDc.out.len HDc.out.row hp
      have HE1 := Lib.hid e1
      have HE2 := Lib.hid e2
      clear e1 e2
      refine (inverse_yes MC.out (Bru.next HB.out BB.out) HDc.out hN1 hN4 HS2.out hp).mono ?_
      rintro e wi ⟨⟨vI, rfl, hI⟩, hb⟩
      replace BB := Lib.hid (zaa BB.out hb)
      replace MC := Lib.hid (IsM.stb.next MC.out hb)
      have MI := Lib.hid hI
      obtain ⟨IA, cI, rfl, _⟩ := zca hI
      have hk0 : nk = 0 := by have := HC.out; have := Nat.le_antisymm (by omega : s2.piv.length ≤ N) hp; omega
      have hk1 : ((nk : Int) == 0) = true := by rw [hk0]; rfl
      have HSI := Lib.hid (inv_sz HDc.out (by omega) HS2.out)
      have HSC : Hid (∀ r ∈ c, ∀ q ∈ r, Sz q 13) := le_szM (HDc.out.sz (by omega)) (by omega)
      rw [zbs, invQ_len'] at MI ⊢
      clear hb hp hI
      go_wp2_with fail
      refine (ker_d MC.out (Bru.next HB.out BB.out) HDc.out hN1 (by omega) hN1 (by omega) HS3.out).mono ?_
      rintro e wk ⟨⟨vK, rfl, hK⟩, hb⟩
      replace BB := Lib.hid (zaa BB.out hb)
      replace MC := Lib.hid (IsM.stb.next MC.out hb)
      replace MI := Lib.hid (IsM.stb.next MI.out hb)
      obtain ⟨KA, cK, rfl, _⟩ := zca hK
      rw [zbs, ← HNK.out]
      clear hK hb
      go_wp2_with fail
      clear hk0 hk1
      refine (mul_d MC.out MI.out (Bru.next HB.out BB.out) hN1 hN4 HDc.out.len HDc.out.row (invQ_len' _ _) (invQ_row' _ _) HSC.out HSI.out HE1.out).mono ?_
      rintro e wm ⟨⟨vO, rfl, hO⟩, hb⟩
      replace BB := Lib.hid (zaa BB.out hb)
      replace MC := Lib.hid (IsM.stb.next MC.out hb)
      replace MI := Lib.hid (IsM.stb.next MI.out hb)
      have MO := Lib.hid hO
      obtain ⟨OA, cO, rfl, _⟩ := zca hO
      rw [zbs, idQ_len] at MO ⊢
      clear hb hO
      go_wp2_with fail
      refine (mul_d MI.out MC.out (Bru.next HB.out BB.out) hN1 hN4 (invQ_len' _ _) (invQ_row' _ _) HDc.out.len HDc.out.row HSI.out HSC.out HE2.out).mono ?_
      rintro e wm2 ⟨⟨vO2, rfl, hO2⟩, hb⟩
      replace BB := Lib.hid (zaa BB.out hb)
      replace MO := Lib.hid (IsM.stb.next MO.out hb)
      have MO2 := Lib.hid hO2
      clear hb hO2 MI MC
      have eN : ((N : Int) != (N : Int)) = false := by simp
      go_wp2_with fail
      refine (same_m MO.out MO2.out).mono ?_
      rw [decide_eq_true rfl]
      rintro e wr0 ⟨rfl, hb⟩
      replace BB := Lib.hid (zaa BB.out hb)
      replace MO := Lib.hid (IsM.stb.next MO.out hb)
      clear hb MO2
      go_wp2_with fail
      go_loopw [29] (fun ii wr => ∃ i : Nat, i ≤ N ∧ ii = .int .i64 (i : Int) ∧ Below wr0.heap.size wr0 wr) (fun ii _ => N - (intOf ii).toNat)
      case atStart => exact ⟨0, Nat.zero_le _, rfl, Below.refl _ _⟩
      case round =>
        obtain ⟨wo, rfl⟩ : ∃ x, x = wr := ⟨_, rfl⟩
        obtain ⟨i, hi, rfl, hbw⟩ := hrel
        have HW := Lib.hid hbw
        rcases Nat.lt_or_ge i N with hlt | hge
        · have hir : (rawM (idQ N))[i]? = some (rawV (zbv i N)) := by rw [rawM, List.getElem?_map, idQ, List.getElem?_map, List.getElem?_range hlt]; rfl
          have MOi := Lib.hid (IsM.stb.next MO.out hbw)
          obtain ⟨bF, oF, Pa, ka, eFA, hSba, ela, ea⟩ := zcr MOi.out hir
          subst eFA
          rw [zbi, unitTo_len] at ela ea
          have Ela := Lib.hid ela
          have Ea := Lib.hid ea
          have Hlt := Lib.hid hlt
          have hii : (0 : Int) ≤ (i : Int) := by omega
          have hi9 : (i : Int) < (N : Int) := by omega
          clear ela ea hir hSba hbw hlt
          go_wp2_with fail
          go_loopw [30] (fun jj wr => ∃ j : Nat, j ≤ N ∧ jj = .int .i64 (j : Int) ∧ Below wo.heap.size wo wr) (fun jj _ => N - (intOf jj).toNat)
          case atStart => exact ⟨0, Nat.zero_le _, rfl, Below.refl _ _⟩
          case round =>
            obtain ⟨wj, rfl⟩ : ∃ x, x = wr := ⟨_, rfl⟩
            obtain ⟨j, hj, rfl, hbj⟩ := hrel
            have HWj := Lib.hid hbj
            have eaj := zac hbj Ea.out
            rcases Nat.lt_or_ge j N with hlt | hge
            · obtain ⟨zo, hzo⟩ : ∃ z : Int, z = if i = j then 1 else 0 := ⟨_, rfl⟩
              obtain ⟨r, hr⟩ : ∃ r, r = raw (if i = j then (1 : Rat) else 0) := ⟨_, rfl⟩
              have hrow : (rawV (zbv i N))[j]? = some r := by rw [rawV, List.getElem?_map, unitTo_at hlt, hr]; rfl
              obtain ⟨bR, oR, X1, X2, X3, X4, eR, _, elr, c0, c1, c2⟩ := zdn (IsV.stb.next Ela.out hbj) hrow
              subst eR
              have ELR := Lib.hid elr
              have E := Lib.hid (And.intro eaj (And.intro c0 (And.intro c1 c2)))
              have Hlj := Lib.hid hlt
              have hj0 : (0 : Int) ≤ (j : Int) := by omega
              have hj9 : (j : Int) < (N : Int) := by omega
              have cr := zbr
              obtain ⟨q1, hq1⟩ : ∃ q, q = zdj zo 1 := ⟨_, rfl⟩
              have Hq1 := Lib.hid hq1
              have Hzo : Hid (zo = 1 ∨ zo = 0) := by rw [Hid, hzo]; split; exact .inl rfl; exact .inr rfl
              have Hrq : Hid (r = raw q1) := by rw [Hid, hr, hq1, hzo]; split <;> rfl
              clear hr hq1 elr hrow hbj hlt c0 c1 c2
              by_cases hij : i = j
              · rw [if_pos hij] at hzo
                subst hzo
                obtain rfl : i = j := hij
                go_wp2_with fail
                have HS : Hid (∀ W : World, Below wj.heap.size wj W → W.cell? ⟨bF, oF + i, none⟩ = some (.slice (some ⟨bR, oR, none⟩) N ka) ∧ W.cell? ⟨bR, oR + i * 3, none⟩ = some (.bool r.neg) ∧ W.cell? ⟨bR, oR + i * 3 + 1, none⟩ = some (.slice X1 r.num.length X2) ∧ W.cell? ⟨bR, oR + i * 3 + 2, none⟩ = some (.slice X3 r.den.length X4)) := fun W hW => ⟨zac hW E.out.1, zac hW E.out.2.1, zac hW E.out.2.2.1, zac hW E.out.2.2.2⟩
                have D4 : Hid (∀ W : World, Below wj.heap.size wj W → Calls Tryd.prog 21 #[.int .i64 1, .int .i64 1] W (RetQ W q1)) := fun W hW => by rw [Hq1.out]; exact ratof_q (a := 1) (b := 1) (by decide) (by decide) (by decide)
                refine wp_region_noPanic ?_
                refine wp_region_held_drew (S := fun w' => w'.cell? ⟨bF, oF + i, none⟩ = some (.slice (some ⟨bR, oR, none⟩) N ka) ∧ w'.cell? ⟨bR, oR + i * 3, none⟩ = some (.bool r.neg) ∧ w'.cell? ⟨bR, oR + i * 3 + 1, none⟩ = some (.slice X1 r.num.length X2) ∧ w'.cell? ⟨bR, oR + i * 3 + 2, none⟩ = some (.slice X3 r.den.length X4)) (by kernel_rfl) (HS.out _ (by (repeat (first | exact Below.refl _ _ | assumption | refine zae ?_ _ | refine zaf ?_ | refine zag ?_ ?_ _ _ _ | refine zai ?_ (by omega) | refine zaa ?_ (by assumption))); (first | done | fail))) (fun hHeld => ?_)
                refine zcx (i := 0) (v := ?_) (some 202) rfl rfl (by kernel_rfl) (by kernel_rfl) (by kernel_rfl) (by rfl) (fun _ _ _ h => h) ?_ (by assumption) ?_
                rotate_left 1
                focus (intro w hSw; (try dsimp only at hSw); go_simp; (try (with_reducible rfl)))
                simp only [Act.put, List.setIfInBounds_toArray, List.set_cons_zero, List.set_cons_succ]
                refine zcx (i := 1) (v := ?_) (some 203) rfl rfl (by kernel_rfl) (by kernel_rfl) (by kernel_rfl) (by rfl) (fun _ _ _ h => h) ?_ (by assumption) ?_
                rotate_left 1
                focus (intro w hSw; (try dsimp only at hSw); go_simp; (try (with_reducible rfl)))
                simp only [Act.put, List.setIfInBounds_toArray, List.set_cons_zero, List.set_cons_succ]
                refine zcx (i := 2) (v := ?_) (some 204) rfl rfl (by kernel_rfl) (by kernel_rfl) (by kernel_rfl) (by rfl) (fun _ _ _ h => h) ?_ (by assumption) ?_
                rotate_left 1
                focus (intro w hSw; (try dsimp only at hSw); go_simp; (try (with_reducible rfl)))
                simp only [Act.put, List.setIfInBounds_toArray, List.set_cons_zero, List.set_cons_succ]
                refine zcx (i := 3) (v := ?_) (some 205) rfl rfl (by kernel_rfl) (by kernel_rfl) (by kernel_rfl) (by rfl) (fun _ _ _ h => h) ?_ (by assumption) ?_
                rotate_left 1
                focus (intro w hSw; (try dsimp only at hSw); go_simp; (try (with_reducible rfl)))
                simp only [Act.put, List.setIfInBounds_toArray, List.set_cons_zero, List.set_cons_succ]
                refine zcx (i := 4) (v := ?_) (some 206) rfl rfl (by kernel_rfl) (by kernel_rfl) (by kernel_rfl) (by rfl) (fun _ _ _ h => h) ?_ (by assumption) ?_
                rotate_left 1
                focus (intro w hSw; (try dsimp only at hSw); go_simp; (try (with_reducible rfl)))
                simp only [Act.put, List.setIfInBounds_toArray, List.set_cons_zero, List.set_cons_succ]
                refine zcx (i := 5) (v := ?_) (some 207) rfl rfl (by kernel_rfl) (by kernel_rfl) (by kernel_rfl) (by rfl) (fun _ _ _ h => h) ?_ (by assumption) ?_
                rotate_left 1
                focus (intro w hSw; (try dsimp only at hSw); go_simp; (try (with_reducible rfl)))
                simp only [Act.put, List.setIfInBounds_toArray, List.set_cons_zero, List.set_cons_succ]
                refine zcx (i := 6) (v := ?_) (some 208) rfl rfl (by kernel_rfl) (by kernel_rfl) (by kernel_rfl) (by rfl) (fun _ _ _ h => h) ?_ (by assumption) ?_
                rotate_left 1
                focus (intro w hSw; (try dsimp only at hSw); go_simp; (try (with_reducible rfl)))
                simp only [Act.put, List.setIfInBounds_toArray, List.set_cons_zero, List.set_cons_succ]
                refine zcx (i := 7) (v := ?_) (some 209) rfl rfl (by kernel_rfl) (by kernel_rfl) (by kernel_rfl) (by rfl) (fun _ _ _ h => h) ?_ (by assumption) ?_
                rotate_left 1
                focus (intro w hSw; (try dsimp only at hSw); go_simp; (try (with_reducible rfl)))
                simp only [Act.put, List.setIfInBounds_toArray, List.set_cons_zero, List.set_cons_succ]
                refine wpAnyH_ready (rs := [8]) (by kernel_rfl) (by simp) ?_
                refine AllReadyH.cons rfl (fun K hK => ?_) AllReadyH.nil
                go_simp
                go_at_call 21
                (with_reducible refine Calls.mono (D4.out _ (by (repeat (first | exact Below.refl _ _ | assumption | refine zae ?_ _ | refine zaf ?_ | refine zag ?_ ?_ _ _ _ | refine zai ?_ (by omega) | refine zaa ?_ (by assumption))); (first | done | fail))) ?_)
                rintro e w4 ⟨⟨v4, rfl, hv4⟩, hb4⟩
                have V4 := Lib.hid (IsQ.stb.old hv4)
                obtain ⟨s4, P4, k4, O4, l4, rfl, _, _, _⟩ := zam hv4
                have D5 : Hid (∀ W : World, Below w4.heap.size w4 W → Calls Tryd.prog 20 #[.agg #[.bool r.neg, .slice X1 r.num.length X2, .slice X3 r.den.length X4], .agg #[.bool s4, .slice P4 (lim q1.num.natAbs).length k4, .slice O4 (lim q1.den).length l4]] W (fun e w' => e = .returned (.bool true) ∧ Below W.heap.size W w')) := fun W hW => by have h := same_r (IsR.stb.next ELR.out (by (repeat (first | exact Below.refl _ _ | assumption | refine zae ?_ _ | refine zaf ?_ | refine zag ?_ ?_ _ _ _ | refine zai ?_ (by omega) | refine zaa ?_ (by assumption))); (first | done | fail))) (IsQ.stb.next V4.out hW); rw [decide_eq_true Hrq.out] at h; exact h
                go_wp2_with fail
                refine hK.out _ _ (HS.out _ (by (repeat (first | exact Below.refl _ _ | assumption | refine zae ?_ _ | refine zaf ?_ | refine zag ?_ ?_ _ _ _ | refine zai ?_ (by omega) | refine zaa ?_ (by assumption))); (first | done | fail))) (fun hHeld => ?_)
                clear hK K
                refine wpAnyH_ready (rs := [9]) (by kernel_rfl) (by simp) ?_
                refine AllReadyH.cons rfl (fun K hK => ?_) AllReadyH.nil
                go_simp
                go_at_call 20
                (with_reducible refine Calls.mono (D5.out _ (by (repeat (first | exact Below.refl _ _ | assumption | refine zae ?_ _ | refine zaf ?_ | refine zag ?_ ?_ _ _ _ | refine zai ?_ (by omega) | refine zaa ?_ (by assumption))); (first | done | fail))) ?_)
                rintro e w5 ⟨rfl, hb5⟩
                go_wp2_with fail
                refine hK.out _ _ (HS.out _ (by (repeat (first | exact Below.refl _ _ | assumption | refine zae ?_ _ | refine zaf ?_ | refine zag ?_ ?_ _ _ _ | refine zai ?_ (by omega) | refine zaa ?_ (by assumption))); (first | done | fail))) (fun hHeld => ?_)
                clear hK K
                refine zcx (i := 10) (v := ?_) (some 212) rfl rfl (by kernel_rfl) (by kernel_rfl) (by kernel_rfl) (by rfl) (fun _ _ _ h => h) ?_ (by assumption) ?_
                rotate_left 1
                focus (intro w hSw; (try dsimp only at hSw); go_simp; (try (with_reducible rfl)))
                simp only [Act.put, List.setIfInBounds_toArray, List.set_cons_zero, List.set_cons_succ]
                refine wpAnyH_done (by kernel_rfl) ?_ _
                refine NoPanic.normal ?_
                go_wp2_with fail
                go_roundw
                case rel => exact ⟨i + 1, Hlj.out, by go_num, zaa HWj.out (by (repeat (first | exact Below.refl _ _ | assumption | refine zae ?_ _ | refine zaf ?_ | refine zag ?_ ?_ _ _ _ | refine zai ?_ (by omega) | refine zaa ?_ (by assumption))); (first | done | fail))⟩
                case measure => have := Hlj.out; simp [intOf]; omega
              · rw [if_neg hij] at hzo
                subst hzo
                have hij1 : ((i : Int) == (j : Int)) = false := beq_eq_false_iff_ne.2 (by omega)
                go_wp2_with fail
                have HS : Hid (∀ W : World, Below wj.heap.size wj W → W.cell? ⟨bF, oF + i, none⟩ = some (.slice (some ⟨bR, oR, none⟩) N ka) ∧ W.cell? ⟨bR, oR + j * 3, none⟩ = some (.bool r.neg) ∧ W.cell? ⟨bR, oR + j * 3 + 1, none⟩ = some (.slice X1 r.num.length X2) ∧ W.cell? ⟨bR, oR + j * 3 + 2, none⟩ = some (.slice X3 r.den.length X4)) := fun W hW => ⟨zac hW E.out.1, zac hW E.out.2.1, zac hW E.out.2.2.1, zac hW E.out.2.2.2⟩
                have D4 : Hid (∀ W : World, Below wj.heap.size wj W → Calls Tryd.prog 21 #[.int .i64 0, .int .i64 1] W (RetQ W q1)) := fun W hW => by rw [Hq1.out]; exact ratof_q (a := 0) (b := 1) (by decide) (by decide) (by decide)
                refine wp_region_noPanic ?_
                refine wp_region_held_drew (S := fun w' => w'.cell? ⟨bF, oF + i, none⟩ = some (.slice (some ⟨bR, oR, none⟩) N ka) ∧ w'.cell? ⟨bR, oR + j * 3, none⟩ = some (.bool r.neg) ∧ w'.cell? ⟨bR, oR + j * 3 + 1, none⟩ = some (.slice X1 r.num.length X2) ∧ w'.cell? ⟨bR, oR + j * 3 + 2, none⟩ = some (.slice X3 r.den.length X4)) (by kernel_rfl) (HS.out _ (by (repeat (first | exact Below.refl _ _ | assumption | refine zae ?_ _ | refine zaf ?_ | refine zag ?_ ?_ _ _ _ | refine zai ?_ (by omega) | refine zaa ?_ (by assumption))); (first | done | fail))) (fun hHeld => ?_)
                refine zcx (i := 0) (v := ?_) (some 202) rfl rfl (by kernel_rfl) (by kernel_rfl) (by kernel_rfl) (by rfl) (fun _ _ _ h => h) ?_ (by assumption) ?_
                rotate_left 1
                focus (intro w hSw; (try dsimp only at hSw); go_simp; (try (with_reducible rfl)))
                simp only [Act.put, List.setIfInBounds_toArray, List.set_cons_zero, List.set_cons_succ]
                refine zcx (i := 1) (v := ?_) (some 203) rfl rfl (by kernel_rfl) (by kernel_rfl) (by kernel_rfl) (by rfl) (fun _ _ _ h => h) ?_ (by assumption) ?_
                rotate_left 1
                focus (intro w hSw; (try dsimp only at hSw); go_simp; (try (with_reducible rfl)))
                simp only [Act.put, List.setIfInBounds_toArray, List.set_cons_zero, List.set_cons_succ]
                refine zcx (i := 2) (v := ?_) (some 204) rfl rfl (by kernel_rfl) (by kernel_rfl) (by kernel_rfl) (by rfl) (fun _ _ _ h => h) ?_ (by assumption) ?_
                rotate_left 1
                focus (intro w hSw; (try dsimp only at hSw); go_simp; (try (with_reducible rfl)))
                simp only [Act.put, List.setIfInBounds_toArray, List.set_cons_zero, List.set_cons_succ]
                refine zcx (i := 3) (v := ?_) (some 205) rfl rfl (by kernel_rfl) (by kernel_rfl) (by kernel_rfl) (by rfl) (fun _ _ _ h => h) ?_ (by assumption) ?_
                rotate_left 1
                focus (intro w hSw; (try dsimp only at hSw); go_simp; (try (with_reducible rfl)))
                simp only [Act.put, List.setIfInBounds_toArray, List.set_cons_zero, List.set_cons_succ]
                refine zcx (i := 4) (v := ?_) (some 206) rfl rfl (by kernel_rfl) (by kernel_rfl) (by kernel_rfl) (by rfl) (fun _ _ _ h => h) ?_ (by assumption) ?_
                rotate_left 1
                focus (intro w hSw; (try dsimp only at hSw); go_simp; (try (with_reducible rfl)))
                simp only [Act.put, List.setIfInBounds_toArray, List.set_cons_zero, List.set_cons_succ]
                refine zcx (i := 5) (v := ?_) (some 207) rfl rfl (by kernel_rfl) (by kernel_rfl) (by kernel_rfl) (by rfl) (fun _ _ _ h => h) ?_ (by assumption) ?_
                rotate_left 1
                focus (intro w hSw; (try dsimp only at hSw); go_simp; (try (with_reducible rfl)))
                simp only [Act.put, List.setIfInBounds_toArray, List.set_cons_zero, List.set_cons_succ]
                refine zcx (i := 6) (v := ?_) (some 208) rfl rfl (by kernel_rfl) (by kernel_rfl) (by kernel_rfl) (by rfl) (fun _ _ _ h => h) ?_ (by assumption) ?_
                rotate_left 1
                focus (intro w hSw; (try dsimp only at hSw); go_simp; (try (with_reducible rfl)))
                simp only [Act.put, List.setIfInBounds_toArray, List.set_cons_zero, List.set_cons_succ]
                refine zcx (i := 7) (v := ?_) (some 209) rfl rfl (by kernel_rfl) (by kernel_rfl) (by kernel_rfl) (by rfl) (fun _ _ _ h => h) ?_ (by assumption) ?_
                rotate_left 1
                focus (intro w hSw; (try dsimp only at hSw); go_simp; (try (with_reducible rfl)))
                simp only [Act.put, List.setIfInBounds_toArray, List.set_cons_zero, List.set_cons_succ]
                refine wpAnyH_ready (rs := [8]) (by kernel_rfl) (by simp) ?_
                refine AllReadyH.cons rfl (fun K hK => ?_) AllReadyH.nil
                go_simp
                go_at_call 21
                (with_reducible refine Calls.mono (D4.out _ (by (repeat (first | exact Below.refl _ _ | assumption | refine zae ?_ _ | refine zaf ?_ | refine zag ?_ ?_ _ _ _ | refine zai ?_ (by omega) | refine zaa ?_ (by assumption))); (first | done | fail))) ?_)
                rintro e w4 ⟨⟨v4, rfl, hv4⟩, hb4⟩
                have V4 := Lib.hid (IsQ.stb.old hv4)
                obtain ⟨s4, P4, k4, O4, l4, rfl, _, _, _⟩ := zam hv4
                have D5 : Hid (∀ W : World, Below w4.heap.size w4 W → Calls Tryd.prog 20 #[.agg #[.bool r.neg, .slice X1 r.num.length X2, .slice X3 r.den.length X4], .agg #[.bool s4, .slice P4 (lim q1.num.natAbs).length k4, .slice O4 (lim q1.den).length l4]] W (fun e w' => e = .returned (.bool true) ∧ Below W.heap.size W w')) := fun W hW => by have h := same_r (IsR.stb.next ELR.out (by (repeat (first | exact Below.refl _ _ | assumption | refine zae ?_ _ | refine zaf ?_ | refine zag ?_ ?_ _ _ _ | refine zai ?_ (by omega) | refine zaa ?_ (by assumption))); (first | done | fail))) (IsQ.stb.next V4.out hW); rw [decide_eq_true Hrq.out] at h; exact h
                go_wp2_with fail
                refine hK.out _ _ (HS.out _ (by (repeat (first | exact Below.refl _ _ | assumption | refine zae ?_ _ | refine zaf ?_ | refine zag ?_ ?_ _ _ _ | refine zai ?_ (by omega) | refine zaa ?_ (by assumption))); (first | done | fail))) (fun hHeld => ?_)
                clear hK K
                refine wpAnyH_ready (rs := [9]) (by kernel_rfl) (by simp) ?_
                refine AllReadyH.cons rfl (fun K hK => ?_) AllReadyH.nil
                go_simp
                go_at_call 20
                (with_reducible refine Calls.mono (D5.out _ (by (repeat (first | exact Below.refl _ _ | assumption | refine zae ?_ _ | refine zaf ?_ | refine zag ?_ ?_ _ _ _ | refine zai ?_ (by omega) | refine zaa ?_ (by assumption))); (first | done | fail))) ?_)
                rintro e w5 ⟨rfl, hb5⟩
                go_wp2_with fail
                refine hK.out _ _ (HS.out _ (by (repeat (first | exact Below.refl _ _ | assumption | refine zae ?_ _ | refine zaf ?_ | refine zag ?_ ?_ _ _ _ | refine zai ?_ (by omega) | refine zaa ?_ (by assumption))); (first | done | fail))) (fun hHeld => ?_)
                clear hK K
                refine zcx (i := 10) (v := ?_) (some 212) rfl rfl (by kernel_rfl) (by kernel_rfl) (by kernel_rfl) (by rfl) (fun _ _ _ h => h) ?_ (by assumption) ?_
                rotate_left 1
                focus (intro w hSw; (try dsimp only at hSw); go_simp; (try (with_reducible rfl)))
                simp only [Act.put, List.setIfInBounds_toArray, List.set_cons_zero, List.set_cons_succ]
                refine wpAnyH_done (by kernel_rfl) ?_ _
                refine NoPanic.normal ?_
                go_wp2_with fail
                go_roundw
                case rel => exact ⟨j + 1, Hlj.out, by go_num, zaa HWj.out (by (repeat (first | exact Below.refl _ _ | assumption | refine zae ?_ _ | refine zaf ?_ | refine zag ?_ ?_ _ _ _ | refine zai ?_ (by omega) | refine zaa ?_ (by assumption))); (first | done | fail))⟩
                case measure => have := Hlj.out; simp [intOf]; omega
            · obtain rfl : N = j := by omega
              have hjj : ¬ N < N := by omega
              clear hbj
              go_wp2_with fail
              go_roundw
              case rel => exact ⟨i + 1, Hlt.out, by go_num, zaa HW.out HWj.out⟩
              case measure => have := Hlt.out; simp [intOf]; omega
        · obtain rfl : N = i := by omega
          have hnn : ¬ N < N := by omega
          clear hbw
          go_wp2_with fail
          refine (awake3_l (Bru.next HB.out (zaa BB.out HW.out))).mono ?_
          rintro e wz ⟨rfl, hb⟩
          go_wp2_with fail
          go_ret
          exact ⟨rfl, zaa (zaa BB.out HW.out) hb⟩
theorem law_vinvE {w : World} {vl : Value} {l : List Int} (hl : IsIL w (Old w) vl l) (n : Int) (hn : (Lit.int .i64 n).wf = true) (m : Int) (hm : (Lit.int .i64 m).wf = true) (hB : Bru w) :
    Calls Tryd.prog 6 #[vl, .int .i64 n, .int .i64 m] w fun e w' => e = .returned (.bool true) ∧ Below w.heap.size w w' := law_vinv hl (in64_of hn) (in64_of hm) hB
end Go.Proofs.YtjkgdggkgljdoaaDoor
