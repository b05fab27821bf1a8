/-
  The walk of the law VectorKernels.
-/
import Derived.Test.YtblpaocignlpkaaDoorVkrn19
import Derived.Test.YtblpaocignlpkaaDoorProofVectorKernels06
import Derived.Test.YtblpaocignlpkaaDoorVkrn18
import Derived.Test.YtblpaocignlpkaaDoorVkrn10
namespace Go.Proofs.YtblpaocignlpkaaDoor
open Go.RowKit
set_option linter.unusedVariables false
def Kern42 (rs fo ro ay ac az : Value) (j k g bF oF bf of_ n0 : Nat) (t y2 : Rat) (i : Nat) (v : Value) (w : World) : Prop :=
  match i with
  | 0 => v = rs
  | 1 => v = .int .i64 (j : Int)
  | 2 => v = rs
  | 3 => v = .int .i64 (j : Int)
  | 4 => v = .pointer (some ⟨g, j * 3, none⟩)
  | 5 => v = ay
  | 6 => v = ac
  | 7 => v = fo
  | 8 => v = .int .i64 (k : Int)
  | 9 => v = .pointer (some ⟨bF, oF + k, none⟩)
  | 10 => v = ro
  | 11 => v = .int .i64 (j : Int)
  | 12 => v = .pointer (some ⟨bf, of_ + j * 3, none⟩)
  | 13 => v = az
  | 14 => IsQ w (Old w) v t
  | 15 => IsQ w (New n0 w) v y2
  | 16 => v = .pointer (some ⟨g, j * 3, none⟩)
  | _ => True
theorem kern42_stb (rs fo ro ay ac az : Value) (j k g bF oF bf of_ n0 : Nat) (t y2 : Rat) : ∀ (i : Nat) (v : Value) (w w' : World), Kern42 rs fo ro ay ac az j k g bF oF bf of_ n0 t y2 i v w → Below w.heap.size w w' → Kern42 rs fo ro ay ac az j k g bF oF bf of_ n0 t y2 i v w' := fun i v w w' h hb => match i, h with
  | 0, h => h
  | 1, h => h
  | 2, h => h
  | 3, h => h
  | 4, h => h
  | 5, h => h
  | 6, h => h
  | 7, h => h
  | 8, h => h
  | 9, h => h
  | 10, h => h
  | 11, h => h
  | 12, h => h
  | 13, h => h
  | 14, h => IsQ.stb.next h hb
  | 15, h => IsQ.stb.fresh h hb
  | 16, h => h
  | _ + 17, _ => trivial
set_option maxRecDepth 100000 in
set_option maxHeartbeats 40000000 in
theorem law_vkern {w : World} {vl : Value} {l : List Int} {n m : Int} (hl : IsIL w (Old w) vl l) (hn : In64 n) (hm : In64 m) (hB : Bru w) :
    Calls Tryd.prog 5 #[vl, .int .i64 n, .int .i64 m] w fun e w' => e = .returned (.bool true) ∧ Below w.heap.size w w' := by
  have HL := Lib.hid hl
  have HB := Lib.hid hB
  obtain ⟨A, c, rfl, _, _, _, _⟩ := hl
  obtain ⟨w0, hw0, hb0, rD, Hz⟩ := zch w #[.slice A l.length c, .int .i64 0] 25
  have D : Hid (IsD w0 w.heap.size l) := ⟨A, c, 0, rD, IsIL.stb.to HL.out (zdo hb0 fun b h => h), Nat.zero_le _⟩
  have BB := Lib.hid hb0
  have HG : Hid (w.heap.size < w.heap.size + 1) := Nat.lt_succ_self _
  obtain ⟨xi, hx⟩ : ∃ xi : Int, n % 5 = xi := ⟨_, rfl⟩
  obtain ⟨yi, hy⟩ : ∃ yi : Int, m % 5 = yi := ⟨_, rfl⟩
  obtain ⟨N, hN⟩ : ∃ N : Nat, 1 + xi = (N : Int) := ⟨(1 + xi).toNat, by omega⟩
  obtain ⟨MM, hM⟩ : ∃ N : Nat, 1 + yi = (N : Int) := ⟨(1 + yi).toNat, by omega⟩
  have hN1 : 1 ≤ N := by omega
  have hN5 : N ≤ 5 := by omega
  have hM1 : 1 ≤ MM := by omega
  have hM5 : MM ≤ 5 := by omega
  have hwN : IntKind.i64.wrap (N : Int) = (N : Int) := IntWalk.i64_in _ (by omega)
  have hwM : IntKind.i64.wrap (MM : Int) = (MM : Int) := IntWalk.i64_in _ (by omega)
  have hx0 : 0 ≤ xi := by omega
  have hx1 : xi ≤ 4 := by omega
  have hy0 : 0 ≤ yi := by omega
  have hy1 : yi ≤ 4 := by omega
  have Hx := Lib.hid hx
  have Hy := Lib.hid hy
  have Hn := Lib.hid hn
  have Hm := Lib.hid hm
  clear hb0 rD hB hx hy hn hm
  go_enter Tryd.func5, Tryd.ntmps5
  go_wp2_with fail
  clear hw0
  refine (mod_n _ n 5 Hn.out.1 Hn.out.2 (by omega) (by omega)).mono ?_
  rw [Hx.out]
  rintro e w1 ⟨rfl, rfl⟩
  go_wp2_with fail
  refine (mod_n _ m 5 Hm.out.1 Hm.out.2 (by omega) (by omega)).mono ?_
  rw [Hy.out]
  rintro e w1 ⟨rfl, rfl⟩
  go_wp2_with fail
  clear hN hM hwN hwM hx0 hx1 hy0 hy1 Hx Hy Hn Hm HL
  refine (matrix_i D.out rfl rfl (n := N) (m := MM) (by omega) (by omega)).mono ?_
  rintro e w1 ⟨⟨vB, z, rfl, h, b, rfl, hs⟩, hD, hG⟩
  replace BB := Lib.hid (BB.out.grown hG BB.out.size (fun k hk => by cases hk; exact Nat.le_refl _))
  have MB := Lib.hid (IsM.stb.old h)
  have HDb := Lib.hid hs
  obtain ⟨AB, cB, rfl, _⟩ := zdk h
  have eB : (rawM b).length = N := by rw [zda]; exact hs.len
  rw [eB] at MB ⊢
  clear h hs hD hG D eB
  obtain ⟨s, hs⟩ : ∃ s, s = runK N MM (zcw b) MM := ⟨_, rfl⟩
  obtain ⟨Ms, hE⟩ := elim_run N MM (zcw b) MM (Nat.le_refl _)
  rw [← hs] at hE
  have HS := Lib.hid hs
  have HE := Lib.hid hE
  clear hs hE
  obtain ⟨np, hnp⟩ : ∃ x, x = s.piv.length := ⟨_, rfl⟩
  obtain ⟨nk, hnk⟩ : ∃ x, x = (kerQ s MM MM).length := ⟨_, rfl⟩
  have hcount : np + nk = MM := by rw [hnp, hnk]; exact ker_count HE.out
  have hnpN : np ≤ N := by rw [hnp]; exact HE.out.len
  have Hnp := Lib.hid hnp
  have Hnk := Lib.hid hnk
  clear hnp hnk
  go_wp2_with fail
  refine (ech_d MB.out (Bru.next HB.out BB.out) HDb.out hN1 hN5 hM1 hM5 HS.out).mono ?_
  rintro e w2 ⟨⟨vF, vP, rfl, hF, hP⟩, hb⟩
  replace BB := Lib.hid (zaa BB.out hb)
  replace MB := Lib.hid (IsM.stb.next MB.out hb)
  have F := Lib.hid hF
  obtain ⟨AP, cP, rfl, hP2⟩ := hP
  have PV := Lib.hid hP2
  obtain ⟨FA, cF, rfl, _⟩ := zdk hF
  have eF : (rawM (zcu s MM N)).length = N := by rw [zda, formTo_len]
  rw [eF] at F ⊢
  rw [← Hnp.out] at PV ⊢
  clear hF hP2 hb eF
  go_wp2_with fail
  refine (ker_d MB.out (Bru.next HB.out BB.out) HDb.out hN1 hN5 hM1 hM5 HS.out).mono ?_
  rintro e w3 ⟨⟨vK, rfl, hK⟩, hb⟩
  replace BB := Lib.hid (zaa BB.out hb)
  replace MB := Lib.hid (IsM.stb.next MB.out hb)
  replace F := Lib.hid (IsM.stb.next F.out hb)
  replace PV := Lib.hid ((IsS.stb IsVal.stb).to PV.out (zax hb))
  have KQ := Lib.hid hK
  obtain ⟨KA, cK, rfl, _⟩ := zdk hK
  rw [zda, ← Hnk.out] at KQ ⊢
  clear hK hb
  have hc1 : (np : Int) + (nk : Int) = (MM : Int) := by omega
  have hc2 : IntKind.i64.wrap (MM : Int) = (MM : Int) := IntWalk.i64_in _ (by omega)
  have hc3 : ¬ (N < np) := by omega
  go_wp2_with fail
  clear hc1 hc2 hc3
  go_loopw [14] (fun ii wr => ∃ i : Nat, i ≤ N ∧ ii = .int .i64 (i : Int) ∧ w3 = wr) (fun ii _ => N - (intOf ii).toNat)
  case atStart => exact ⟨0, Nat.zero_le _, rfl, rfl⟩
  case round =>
    obtain ⟨i, hi, rfl, rfl⟩ := hrel
    rcases Nat.lt_or_ge i N with hlt | hge
    · have hfr : (rawM (zcu s MM N))[i]? = some (rawV (rowQ s.A s.piv.length s.d i 0 MM)) := by rw [rawM, List.getElem?_map, zfr hlt]; rfl
      obtain ⟨bF, oF, Pa, ka, eFA, hSba, ela, ea⟩ := zcj F.out hfr
      rw [zbh, zdi] at ela ea
      have Hel := Lib.hid ela
      have Hlt := Lib.hid hlt
      subst eFA
      have hii : (0 : Int) ≤ (i : Int) := by omega
      have hi9 : (i : Int) < (N : Int) := by omega
      clear ela hfr hSba
      by_cases hin : i < np
      · have hin' : ¬ ((np : Int) ≤ (i : Int)) := by omega
        go_wp2_with fail
        clear ea
        go_roundw
        case rel => exact ⟨i + 1, Hlt.out, by go_num, trivial⟩
        case measure => have := Hlt.out; simp [intOf]; omega
      · have hin' : (np : Int) ≤ (i : Int) := by omega
        have hz : IsV w3 (Old w3) (.slice Pa MM ka) (rawV (List.replicate MM 0)) := by
          have h := Hel.out
          rw [rowQ_zero (by rw [← Hnp.out]; omega)] at h
          exact h
        have Hz := Lib.hid hz
        clear hz
        go_wp2_with fail
        refine (zero_l Hz.out rfl).mono ?_
        rintro e wz ⟨rfl, rfl⟩
        go_wp2_with fail
        clear ea
        go_roundw
        case rel => exact ⟨i + 1, Hlt.out, by go_num, trivial⟩
        case measure => have := Hlt.out; simp [intOf]; omega
    · obtain rfl : N = i := by omega
      have hnn : ¬ N < N := by omega
      go_wp2_with fail
      have hfr : (rawM (zcu s MM N))[0]? = some (rawV (rowQ s.A s.piv.length s.d 0 0 MM)) := by rw [rawM, List.getElem?_map, zfr hN1]; rfl
      obtain ⟨bF, oF, Pa, ka, eFA, hSba, ela, ea⟩ := zcj F.out hfr
      rw [zbh, zdi] at ela ea
      subst eFA
      clear ela ea hfr hSba hnn
      go_loopw [15] (fun ii wr => ∃ i : Nat, i ≤ np ∧ ii = .int .i64 (i : Int) ∧ Below w3.heap.size w3 wr) (fun ii _ => np - (intOf ii).toNat)
      case atStart => exact ⟨0, Nat.zero_le _, rfl, Below.refl _ _⟩
      case round =>
        obtain ⟨wo, rfl⟩ : ∃ x, x = wr := ⟨_, rfl⟩
        obtain ⟨i, hi, rfl, hbw⟩ := hrel
        have HW := Lib.hid hbw
        have Fo := Lib.hid (IsM.stb.next F.out hbw)
        rcases Nat.lt_or_ge i np with hlt | hge
        · obtain ⟨cc, hcc⟩ : ∃ cc, s.piv[i]? = some cc := ⟨_, List.getElem?_eq_getElem (by rw [← Hnp.out]; exact hlt)⟩
          have hgd : s.piv.getD i 0 = cc := by rw [List.getD_eq_getElem?_getD, hcc]; rfl
          have hip : i < s.piv.length := by rw [← Hnp.out]; exact hlt
          have hcm : cc < MM := by rw [← hgd]; exact HE.out.lt i hip
          have hpv := (IsS.stb IsVal.stb).to PV.out (zax hbw)
          obtain ⟨bp, op, ev, eAP, _, hRe, _, hcell⟩ := IsS.get hpv (by omega) (j := i) (x := .int .i64 (cc : Int)) (by rw [List.getElem?_map, hcc]; rfl)
          subst eAP
          have hRe : ev = .int .i64 (cc : Int) := hRe
          subst hRe
          have p0 := hcell 0 _ rfl
          rw [Nat.mul_one, Nat.add_zero] at p0
          have hfr : (rawM (zcu s MM N))[i]? = some (rawV (rowQ s.A s.piv.length s.d i 0 MM)) := by rw [rawM, List.getElem?_map, zfr (by omega)]; rfl
          obtain ⟨b1, o1, Pa, ka, eFA, _, ela, ea⟩ := zcj Fo.out hfr
          cases eFA
          rw [zbh, zdi] at ela ea
          have hz : IsV wo (Old wo) (.slice Pa cc ka) (rawV (List.replicate cc 0)) := by
            have h1 := IsS.takeS ela (p := cc) (by omega)
            rw [← hgd, rawV, ← List.map_take, rowQ_low HE.out hip] at h1
            rw [← hgd]
            exact h1
          have Hz := Lib.hid hz
          have hcap := (IsS.cap ela).1
          have hcap2 := (IsS.cap ela).2
          have hii : (0 : Int) ≤ (i : Int) := by omega
          have hi9 : (i : Int) < (N : Int) := by omega
          have hi8 : (i : Int) < (np : Int) := by omega
          have hc0 : (0 : Int) ≤ (cc : Int) := by omega
          have hc1 : ¬ ((cc : Int) < 0) := by omega
          have hc2 : ¬ ((MM : Int) ≤ (cc : Int)) := by omega
          have hc3 : (cc : Int) ≤ (ka : Int) := by omega
          have hw1 : (cc : Int) + 1 ≤ 100 := by omega
          have Hlt := Lib.hid hlt
          have Hip := Lib.hid hip
          have Hgd := Lib.hid hgd
          have Hcm := Lib.hid hcm
          have HPQ : Hid (0 < i → ∃ i1 c1, i = i1 + 1 ∧ c1 < cc ∧ wo.cell? ⟨bp, op + i1, none⟩ = some (.int .i64 (c1 : Int))) := by
            intro h0
            obtain ⟨i1, hi1⟩ : ∃ i1, i = i1 + 1 := ⟨i - 1, by omega⟩
            obtain ⟨c1, hcc1⟩ : ∃ cc, s.piv[i1]? = some cc := ⟨_, List.getElem?_eq_getElem (by omega)⟩
            have hgd1 : s.piv.getD i1 0 = c1 := by rw [List.getD_eq_getElem?_getD, hcc1]; rfl
            have hasc := HE.out.asc i1 i (by omega) hip
            rw [hgd1, hgd] at hasc
            obtain ⟨bp', op', ev, eAP, _, hRe, _, hcell'⟩ := IsS.get hpv (by omega) (j := i1) (x := .int .i64 (c1 : Int)) (by rw [List.getElem?_map, hcc1]; rfl)
            cases eAP
            have hRe : ev = .int .i64 (c1 : Int) := hRe
            subst hRe
            have q0 := hcell' 0 _ rfl
            rw [Nat.mul_one, Nat.add_zero] at q0
            exact ⟨i1, c1, hi1, hasc, q0⟩
          clear hcc hgd hip hcm hpv hcell hfr ela hz hbw hcap hlt
          rcases Nat.eq_zero_or_pos i with h0 | h0
          · have hi0 : ¬ ((0 : Int) < (i : Int)) := by omega
            clear h0
            go_wp2_with fail
            refine (zero_l Hz.out rfl).mono ?_
            rintro e wz ⟨rfl, hwz⟩
            obtain rfl : wo = wz := hwz.symm
            go_wp2_with fail
            go_loopw [17] (fun kk wr => ∃ k : Nat, k ≤ N ∧ kk = .int .i64 (k : Int) ∧ Below wo.heap.size wo wr) (fun kk _ => N - (intOf kk).toNat)
            case atStart => exact ⟨0, Nat.zero_le _, rfl, Below.refl _ _⟩
            case round =>
              obtain ⟨wi, rfl⟩ : ∃ x, x = wr := ⟨_, rfl⟩
              obtain ⟨k, hk, rfl, hbk⟩ := hrel
              have HWk := Lib.hid hbk
              have Fk := Lib.hid (IsM.stb.next Fo.out hbk)
              rcases Nat.lt_or_ge k N with hlt | hge
              · have hfr : (rawM (zcu s MM N))[k]? = some (rawV (rowQ s.A s.piv.length s.d k 0 MM)) := by rw [rawM, List.getElem?_map, zfr hlt]; rfl
                obtain ⟨b1, o1, Pb, kb, eFA, _, elb, eb⟩ := zcj Fk.out hfr
                cases eFA
                rw [zbh, zdi] at elb eb
                obtain ⟨r, hr⟩ : ∃ r, r = raw (atQ s.A s.piv.length s.d k cc) := ⟨_, rfl⟩
                have hrow : (rawV (rowQ s.A s.piv.length s.d k 0 MM))[cc]? = some r := by rw [rawV, List.getElem?_map, rowQ_get Hcm.out, Nat.zero_add, hr]; rfl
                obtain ⟨bR, oR, X1, X2, X3, X4, rfl, _, elr, c0, c1, c2⟩ := zcs elb hrow
                have hu := HE.out.unit (i := k) (t := i) Hip.out
                rw [Hgd.out] at hu
                rw [hu] at hr
                have ELR := Lib.hid elr
                have E := Lib.hid (And.intro eb (And.intro c0 (And.intro c1 c2)))
                have Hlk := Lib.hid hlt
                have hk0 : (0 : Int) ≤ (k : Int) := by omega
                have hk9 : (k : Int) < (N : Int) := by omega
                have hc9 : (cc : Int) < (MM : Int) := by have := Hcm.out; omega
                have cr := zbn
                by_cases hki : k = i
                · rw [if_pos hki] at hr
                  obtain ⟨q1, hq1⟩ : ∃ q, q = zdf 1 1 := ⟨_, rfl⟩
                  have Hq1 := Lib.hid hq1
                  have Hrq : Hid (r = raw q1) := by rw [Hid, hr, hq1]; rfl
                  obtain rfl : k = i := hki
                  clear hr hq1 hu elr elb hrow hfr hbk hlt c0 c1 c2 eb
                  go_wp2_with fail
                  have HS : Hid (∀ W : World, Below wi.heap.size wi W → W.cell? ⟨bF, oF + k, none⟩ = some (.slice (some ⟨bR, oR, none⟩) MM kb) ∧ W.cell? ⟨bR, oR + cc * 3, none⟩ = some (.bool r.neg) ∧ W.cell? ⟨bR, oR + cc * 3 + 1, none⟩ = some (.slice X1 r.num.length X2) ∧ W.cell? ⟨bR, oR + cc * 3 + 2, none⟩ = some (.slice X3 r.den.length X4)) := fun W hW => ⟨zab hW E.out.1, zab hW E.out.2.1, zab hW E.out.2.2.1, zab hW E.out.2.2.2⟩
                  have D4 : Hid (∀ W : World, Below wi.heap.size wi W → Calls Tryd.prog 21 #[.int .i64 1, .int .i64 1] W (RetQ W q1)) := fun W hW => by rw [Hq1.out]; exact ratof_q (a := 1) (b := 1) (by decide) (by decide) (by decide)
                  refine wp_region_noPanic ?_
                  refine wp_region_held_drew (S := fun w' => w'.cell? ⟨bF, oF + k, none⟩ = some (.slice (some ⟨bR, oR, none⟩) MM kb) ∧ w'.cell? ⟨bR, oR + cc * 3, none⟩ = some (.bool r.neg) ∧ w'.cell? ⟨bR, oR + cc * 3 + 1, none⟩ = some (.slice X1 r.num.length X2) ∧ w'.cell? ⟨bR, oR + cc * 3 + 2, none⟩ = some (.slice X3 r.den.length X4)) (by kernel_rfl) (HS.out _ (by (repeat (first | exact Below.refl _ _ | assumption | refine zae ?_ _ | refine zag ?_ | refine zaf ?_ ?_ _ _ _ | refine zaj ?_ (by omega) | refine zaa ?_ (by assumption))); (first | done | fail))) (fun hHeld => ?_)
                  refine zbe (i := 0) (v := ?_) (some 152) rfl rfl (by kernel_rfl) (by kernel_rfl) (by kernel_rfl) (by rfl) (fun _ _ _ h => h) ?_ (by assumption) ?_
                  rotate_left 1
                  focus (intro w hSw; (try dsimp only at hSw); go_simp; (try (with_reducible rfl)))
                  simp only [Act.put, List.setIfInBounds_toArray, List.set_cons_zero, List.set_cons_succ]
                  refine zbe (i := 1) (v := ?_) (some 153) rfl rfl (by kernel_rfl) (by kernel_rfl) (by kernel_rfl) (by rfl) (fun _ _ _ h => h) ?_ (by assumption) ?_
                  rotate_left 1
                  focus (intro w hSw; (try dsimp only at hSw); go_simp; (try (with_reducible rfl)))
                  simp only [Act.put, List.setIfInBounds_toArray, List.set_cons_zero, List.set_cons_succ]
                  refine zbe (i := 2) (v := ?_) (some 154) rfl rfl (by kernel_rfl) (by kernel_rfl) (by kernel_rfl) (by rfl) (fun _ _ _ h => h) ?_ (by assumption) ?_
                  rotate_left 1
                  focus (intro w hSw; (try dsimp only at hSw); go_simp; (try (with_reducible rfl)))
                  simp only [Act.put, List.setIfInBounds_toArray, List.set_cons_zero, List.set_cons_succ]
                  refine zbe (i := 3) (v := ?_) (some 155) rfl rfl (by kernel_rfl) (by kernel_rfl) (by kernel_rfl) (by rfl) (fun _ _ _ h => h) ?_ (by assumption) ?_
                  rotate_left 1
                  focus (intro w hSw; (try dsimp only at hSw); go_simp; (try (with_reducible rfl)))
                  simp only [Act.put, List.setIfInBounds_toArray, List.set_cons_zero, List.set_cons_succ]
                  refine zbe (i := 4) (v := ?_) (some 156) rfl rfl (by kernel_rfl) (by kernel_rfl) (by kernel_rfl) (by rfl) (fun _ _ _ h => h) ?_ (by assumption) ?_
                  rotate_left 1
                  focus (intro w hSw; (try dsimp only at hSw); go_simp; (try (with_reducible rfl)))
                  simp only [Act.put, List.setIfInBounds_toArray, List.set_cons_zero, List.set_cons_succ]
                  refine zbe (i := 5) (v := ?_) (some 157) rfl rfl (by kernel_rfl) (by kernel_rfl) (by kernel_rfl) (by rfl) (fun _ _ _ h => h) ?_ (by assumption) ?_
                  rotate_left 1
                  focus (intro w hSw; (try dsimp only at hSw); go_simp; (try (with_reducible rfl)))
                  simp only [Act.put, List.setIfInBounds_toArray, List.set_cons_zero, List.set_cons_succ]
                  refine zbe (i := 6) (v := ?_) (some 158) rfl rfl (by kernel_rfl) (by kernel_rfl) (by kernel_rfl) (by rfl) (fun _ _ _ h => h) ?_ (by assumption) ?_
                  rotate_left 1
                  focus (intro w hSw; (try dsimp only at hSw); go_simp; (try (with_reducible rfl)))
                  simp only [Act.put, List.setIfInBounds_toArray, List.set_cons_zero, List.set_cons_succ]
                  refine zbe (i := 7) (v := ?_) (some 159) rfl rfl (by kernel_rfl) (by kernel_rfl) (by kernel_rfl) (by rfl) (fun _ _ _ h => h) ?_ (by assumption) ?_
                  rotate_left 1
                  focus (intro w hSw; (try dsimp only at hSw); go_simp; (try (with_reducible rfl)))
                  simp only [Act.put, List.setIfInBounds_toArray, List.set_cons_zero, List.set_cons_succ]
                  refine zbe (i := 8) (v := ?_) (some 160) rfl rfl (by kernel_rfl) (by kernel_rfl) (by kernel_rfl) (by rfl) (fun _ _ _ h => h) ?_ (by assumption) ?_
                  rotate_left 1
                  focus (intro w hSw; (try dsimp only at hSw); go_simp; (try (with_reducible rfl)))
                  simp only [Act.put, List.setIfInBounds_toArray, List.set_cons_zero, List.set_cons_succ]
                  refine zbe (i := 9) (v := ?_) (some 161) rfl rfl (by kernel_rfl) (by kernel_rfl) (by kernel_rfl) (by rfl) (fun _ _ _ h => h) ?_ (by assumption) ?_
                  rotate_left 1
                  focus (intro w hSw; (try dsimp only at hSw); go_simp; (try (with_reducible rfl)))
                  simp only [Act.put, List.setIfInBounds_toArray, List.set_cons_zero, List.set_cons_succ]
                  refine zbe (i := 10) (v := ?_) (some 162) rfl rfl (by kernel_rfl) (by kernel_rfl) (by kernel_rfl) (by rfl) (fun _ _ _ h => h) ?_ (by assumption) ?_
                  rotate_left 1
                  focus (intro w hSw; (try dsimp only at hSw); go_simp; (try (with_reducible rfl)))
                  simp only [Act.put, List.setIfInBounds_toArray, List.set_cons_zero, List.set_cons_succ]
                  refine wpAnyH_ready (rs := [11]) (by kernel_rfl) (by simp) ?_
                  refine AllReadyH.cons rfl (fun K hK => ?_) AllReadyH.nil
                  go_simp
                  go_at_call 21
                  (with_reducible refine Calls.mono (D4.out _ (by (repeat (first | exact Below.refl _ _ | assumption | refine zae ?_ _ | refine zag ?_ | refine zaf ?_ ?_ _ _ _ | refine zaj ?_ (by omega) | refine zaa ?_ (by assumption))); (first | done | fail))) ?_)
                  rintro e w4 ⟨⟨v4, rfl, hv4⟩, hb4⟩
                  have V4 := Lib.hid (IsQ.stb.old hv4)
                  obtain ⟨s4, P4, k4, O4, l4, rfl, _, _, _⟩ := zam hv4
                  have D5 : Hid (∀ W : World, Below w4.heap.size w4 W → Calls Tryd.prog 20 #[.agg #[.bool r.neg, .slice X1 r.num.length X2, .slice X3 r.den.length X4], .agg #[.bool s4, .slice P4 (lim q1.num.natAbs).length k4, .slice O4 (lim q1.den).length l4]] W (fun e w' => e = .returned (.bool true) ∧ Below W.heap.size W w')) := fun W hW => by have h := same_r (IsR.stb.next ELR.out (by (repeat (first | exact Below.refl _ _ | assumption | refine zae ?_ _ | refine zag ?_ | refine zaf ?_ ?_ _ _ _ | refine zaj ?_ (by omega) | refine zaa ?_ (by assumption))); (first | done | fail))) (IsQ.stb.next V4.out hW); rw [decide_eq_true Hrq.out] at h; exact h
                  go_wp2_with fail
                  refine hK.out _ _ (HS.out _ (by (repeat (first | exact Below.refl _ _ | assumption | refine zae ?_ _ | refine zag ?_ | refine zaf ?_ ?_ _ _ _ | refine zaj ?_ (by omega) | refine zaa ?_ (by assumption))); (first | done | fail))) (fun hHeld => ?_)
                  clear hK K
                  refine wpAnyH_ready (rs := [12]) (by kernel_rfl) (by simp) ?_
                  refine AllReadyH.cons rfl (fun K hK => ?_) AllReadyH.nil
                  go_simp
                  go_at_call 20
                  (with_reducible refine Calls.mono (D5.out _ (by (repeat (first | exact Below.refl _ _ | assumption | refine zae ?_ _ | refine zag ?_ | refine zaf ?_ ?_ _ _ _ | refine zaj ?_ (by omega) | refine zaa ?_ (by assumption))); (first | done | fail))) ?_)
                  rintro e w5 ⟨rfl, hb5⟩
                  go_wp2_with fail
                  refine hK.out _ _ (HS.out _ (by (repeat (first | exact Below.refl _ _ | assumption | refine zae ?_ _ | refine zag ?_ | refine zaf ?_ ?_ _ _ _ | refine zaj ?_ (by omega) | refine zaa ?_ (by assumption))); (first | done | fail))) (fun hHeld => ?_)
                  clear hK K
                  refine zbe (i := 13) (v := ?_) (some 165) rfl rfl (by kernel_rfl) (by kernel_rfl) (by kernel_rfl) (by rfl) (fun _ _ _ h => h) ?_ (by assumption) ?_
                  rotate_left 1
                  focus (intro w hSw; (try dsimp only at hSw); go_simp; (try (with_reducible rfl)))
                  simp only [Act.put, List.setIfInBounds_toArray, List.set_cons_zero, List.set_cons_succ]
                  refine zbe (i := 14) (v := ?_) (some 166) rfl rfl (by kernel_rfl) (by kernel_rfl) (by kernel_rfl) (by rfl) (fun _ _ _ h => h) ?_ (by assumption) ?_
                  rotate_left 1
                  focus (intro w hSw; (try dsimp only at hSw); go_simp; (try (with_reducible rfl)))
                  simp only [Act.put, List.setIfInBounds_toArray, List.set_cons_zero, List.set_cons_succ]
                  refine zbe (i := 15) (v := ?_) (some 167) rfl rfl (by kernel_rfl) (by kernel_rfl) (by kernel_rfl) (by rfl) (fun _ _ _ h => h) ?_ (by assumption) ?_
                  rotate_left 1
                  focus (intro w hSw; (try dsimp only at hSw); go_simp; (try (with_reducible rfl)))
                  simp only [Act.put, List.setIfInBounds_toArray, List.set_cons_zero, List.set_cons_succ]
                  refine zbe (i := 16) (v := ?_) (some 168) rfl rfl (by kernel_rfl) (by kernel_rfl) (by kernel_rfl) (by rfl) (fun _ _ _ h => h) ?_ (by assumption) ?_
                  rotate_left 1
                  focus (intro w hSw; (try dsimp only at hSw); go_simp; (try (with_reducible rfl)))
                  simp only [Act.put, List.setIfInBounds_toArray, List.set_cons_zero, List.set_cons_succ]
                  refine zbe (i := 17) (v := ?_) (some 169) rfl rfl (by kernel_rfl) (by kernel_rfl) (by kernel_rfl) (by rfl) (fun _ _ _ h => h) ?_ (by assumption) ?_
                  rotate_left 1
                  focus (intro w hSw; (try dsimp only at hSw); go_simp; (try (with_reducible rfl)))
                  simp only [Act.put, List.setIfInBounds_toArray, List.set_cons_zero, List.set_cons_succ]
                  refine zbe (i := 18) (v := ?_) (some 170) rfl rfl (by kernel_rfl) (by kernel_rfl) (by kernel_rfl) (by rfl) (fun _ _ _ h => h) ?_ (by assumption) ?_
                  rotate_left 1
                  focus (intro w hSw; (try dsimp only at hSw); go_simp; (try (with_reducible rfl)))
                  simp only [Act.put, List.setIfInBounds_toArray, List.set_cons_zero, List.set_cons_succ]
                  refine zbe (i := 19) (v := ?_) (some 171) rfl rfl (by kernel_rfl) (by kernel_rfl) (by kernel_rfl) (by rfl) (fun _ _ _ h => h) ?_ (by assumption) ?_
                  rotate_left 1
                  focus (intro w hSw; (try dsimp only at hSw); go_simp; (try (with_reducible rfl)))
                  simp only [Act.put, List.setIfInBounds_toArray, List.set_cons_zero, List.set_cons_succ]
                  refine zcm (i := 20) (some 172) rfl rfl (by kernel_rfl) (by kernel_rfl) (by kernel_rfl) (by rfl) (fun _ _ _ h => h) (by assumption) ?_
                  simp only [Act.put, List.setIfInBounds_toArray, List.set_cons_zero, List.set_cons_succ]
                  refine zcm (i := 21) (some 173) rfl rfl (by kernel_rfl) (by kernel_rfl) (by kernel_rfl) (by rfl) (fun _ _ _ h => h) (by assumption) ?_
                  simp only [Act.put, List.setIfInBounds_toArray, List.set_cons_zero, List.set_cons_succ]
                  refine zcm (i := 22) (some 174) rfl rfl (by kernel_rfl) (by kernel_rfl) (by kernel_rfl) (by rfl) (fun _ _ _ h => h) (by assumption) ?_
                  simp only [Act.put, List.setIfInBounds_toArray, List.set_cons_zero, List.set_cons_succ]
                  refine zcm (i := 23) (some 175) rfl rfl (by kernel_rfl) (by kernel_rfl) (by kernel_rfl) (by rfl) (fun _ _ _ h => h) (by assumption) ?_
                  simp only [Act.put, List.setIfInBounds_toArray, List.set_cons_zero, List.set_cons_succ]
                  refine zcm (i := 24) (some 176) rfl rfl (by kernel_rfl) (by kernel_rfl) (by kernel_rfl) (by rfl) (fun _ _ _ h => h) (by assumption) ?_
                  simp only [Act.put, List.setIfInBounds_toArray, List.set_cons_zero, List.set_cons_succ]
                  refine zcm (i := 25) (some 177) rfl rfl (by kernel_rfl) (by kernel_rfl) (by kernel_rfl) (by rfl) (fun _ _ _ h => h) (by assumption) ?_
                  simp only [Act.put, List.setIfInBounds_toArray, List.set_cons_zero, List.set_cons_succ]
                  refine zcm (i := 26) (some 178) rfl rfl (by kernel_rfl) (by kernel_rfl) (by kernel_rfl) (by rfl) (fun _ _ _ h => h) (by assumption) ?_
                  simp only [Act.put, List.setIfInBounds_toArray, List.set_cons_zero, List.set_cons_succ]
                  refine zcm (i := 27) (some 179) rfl rfl (by kernel_rfl) (by kernel_rfl) (by kernel_rfl) (by rfl) (fun _ _ _ h => h) (by assumption) ?_
                  simp only [Act.put, List.setIfInBounds_toArray, List.set_cons_zero, List.set_cons_succ]
                  refine zcm (i := 28) (some 180) rfl rfl (by kernel_rfl) (by kernel_rfl) (by kernel_rfl) (by rfl) (fun _ _ _ h => h) (by assumption) ?_
                  simp only [Act.put, List.setIfInBounds_toArray, List.set_cons_zero, List.set_cons_succ]
                  refine zcm (i := 29) (some 181) rfl rfl (by kernel_rfl) (by kernel_rfl) (by kernel_rfl) (by rfl) (fun _ _ _ h => h) (by assumption) ?_
                  simp only [Act.put, List.setIfInBounds_toArray, List.set_cons_zero, List.set_cons_succ]
                  refine zbe (i := 30) (v := ?_) (some 182) rfl rfl (by kernel_rfl) (by kernel_rfl) (by kernel_rfl) (by rfl) (fun _ _ _ h => h) ?_ (by assumption) ?_
                  rotate_left 1
                  focus (intro w hSw; (try dsimp only at hSw); go_simp; (try (with_reducible rfl)))
                  simp only [Act.put, List.setIfInBounds_toArray, List.set_cons_zero, List.set_cons_succ]
                  refine zbe (i := 31) (v := ?_) (some 183) rfl rfl (by kernel_rfl) (by kernel_rfl) (by kernel_rfl) (by rfl) (fun _ _ _ h => h) ?_ (by assumption) ?_
                  rotate_left 1
                  focus (intro w hSw; (try dsimp only at hSw); go_simp; (try (with_reducible rfl)))
                  simp only [Act.put, List.setIfInBounds_toArray, List.set_cons_zero, List.set_cons_succ]
                  refine wpAnyH_done (by kernel_rfl) ?_ _
                  refine NoPanic.normal ?_
                  go_wp2_with fail
                  go_roundw
                  case rel => exact ⟨k + 1, Hlk.out, by go_num, zaa HWk.out (by (repeat (first | exact Below.refl _ _ | assumption | refine zae ?_ _ | refine zag ?_ | refine zaf ?_ ?_ _ _ _ | refine zaj ?_ (by omega) | refine zaa ?_ (by assumption))); (first | done | fail))⟩
                  case measure => have := Hlk.out; simp [intOf]; omega
                · rw [if_neg hki] at hr
                  have hz2 := isV_at elb hrow
                  have hcap3 := (IsS.cap elb).1
                  have hcap4 := (IsS.cap elb).2
                  have hr1 : [r] = rawV (List.replicate 1 0) := by rw [hr]; rfl
                  rw [hr1] at hz2
                  have Hz2 := Lib.hid hz2
                  have hki1 : ((k : Int) == (i : Int)) = false := beq_eq_false_iff_ne.2 (by omega)
                  have hki2 : ((k : Int) != (i : Int)) = true := bne_iff_ne.2 (by omega)
                  have hcw : IntKind.i64.wrap ((cc : Int) + 1) = (cc : Int) + 1 := IntWalk.i64_in _ (by omega)
                  have hck : (cc : Int) + 1 ≤ (kb : Int) := by omega
                  have hcz : (0 : Int) ≤ (cc : Int) + 1 := by omega
                  have hkc : ¬ (kb = cc) := by omega
                  clear hr hr1 hz2 hu elr elb hrow hfr hbk hlt c0 c1 c2 eb hcap3 hki
                  go_wp2_with fail
                  have HS : Hid (∀ W : World, Below wi.heap.size wi W → W.cell? ⟨bF, oF + k, none⟩ = some (.slice (some ⟨bR, oR, none⟩) MM kb) ∧ W.cell? ⟨bR, oR + cc * 3, none⟩ = some (.bool r.neg) ∧ W.cell? ⟨bR, oR + cc * 3 + 1, none⟩ = some (.slice X1 r.num.length X2) ∧ W.cell? ⟨bR, oR + cc * 3 + 2, none⟩ = some (.slice X3 r.den.length X4)) := fun W hW => ⟨zab hW E.out.1, zab hW E.out.2.1, zab hW E.out.2.2.1, zab hW E.out.2.2.2⟩
                  have D4 : Hid (∀ W : World, Below wi.heap.size wi W → Calls Tryd.prog 27 #[.slice (some ⟨bR, oR + cc * 3, none⟩) 1 (kb - cc), .int .i64 1] W (fun e w' => e = .returned (.bool true) ∧ Below W.heap.size W w')) := fun W hW => (zero_l (n := 1) (IsV.stb.next Hz2.out hW) rfl).mono fun e w' h => ⟨h.1, by rw [h.2]; exact Below.refl _ _⟩
                  refine wp_region_noPanic ?_
                  refine wp_region_held_drew (S := fun w' => w'.cell? ⟨bF, oF + k, none⟩ = some (.slice (some ⟨bR, oR, none⟩) MM kb) ∧ w'.cell? ⟨bR, oR + cc * 3, none⟩ = some (.bool r.neg) ∧ w'.cell? ⟨bR, oR + cc * 3 + 1, none⟩ = some (.slice X1 r.num.length X2) ∧ w'.cell? ⟨bR, oR + cc * 3 + 2, none⟩ = some (.slice X3 r.den.length X4)) (by kernel_rfl) (HS.out _ (by (repeat (first | exact Below.refl _ _ | assumption | refine zae ?_ _ | refine zag ?_ | refine zaf ?_ ?_ _ _ _ | refine zaj ?_ (by omega) | refine zaa ?_ (by assumption))); (first | done | fail))) (fun hHeld => ?_)
                  refine zbe (i := 0) (v := ?_) (some 152) rfl rfl (by kernel_rfl) (by kernel_rfl) (by kernel_rfl) (by rfl) (fun _ _ _ h => h) ?_ (by assumption) ?_
                  rotate_left 1
                  focus (intro w hSw; (try dsimp only at hSw); go_simp; (try (with_reducible rfl)))
                  simp only [Act.put, List.setIfInBounds_toArray, List.set_cons_zero, List.set_cons_succ]
                  refine zbe (i := 1) (v := ?_) (some 153) rfl rfl (by kernel_rfl) (by kernel_rfl) (by kernel_rfl) (by rfl) (fun _ _ _ h => h) ?_ (by assumption) ?_
                  rotate_left 1
                  focus (intro w hSw; (try dsimp only at hSw); go_simp; (try (with_reducible rfl)))
                  simp only [Act.put, List.setIfInBounds_toArray, List.set_cons_zero, List.set_cons_succ]
                  refine zbe (i := 2) (v := ?_) (some 154) rfl rfl (by kernel_rfl) (by kernel_rfl) (by kernel_rfl) (by rfl) (fun _ _ _ h => h) ?_ (by assumption) ?_
                  rotate_left 1
                  focus (intro w hSw; (try dsimp only at hSw); go_simp; (try (with_reducible rfl)))
                  simp only [Act.put, List.setIfInBounds_toArray, List.set_cons_zero, List.set_cons_succ]
                  refine zbe (i := 3) (v := ?_) (some 155) rfl rfl (by kernel_rfl) (by kernel_rfl) (by kernel_rfl) (by rfl) (fun _ _ _ h => h) ?_ (by assumption) ?_
                  rotate_left 1
                  focus (intro w hSw; (try dsimp only at hSw); go_simp; (try (with_reducible rfl)))
                  simp only [Act.put, List.setIfInBounds_toArray, List.set_cons_zero, List.set_cons_succ]
                  refine zcm (i := 4) (some 156) rfl rfl (by kernel_rfl) (by kernel_rfl) (by kernel_rfl) (by rfl) (fun _ _ _ h => h) (by assumption) ?_
                  simp only [Act.put, List.setIfInBounds_toArray, List.set_cons_zero, List.set_cons_succ]
                  refine zcm (i := 5) (some 157) rfl rfl (by kernel_rfl) (by kernel_rfl) (by kernel_rfl) (by rfl) (fun _ _ _ h => h) (by assumption) ?_
                  simp only [Act.put, List.setIfInBounds_toArray, List.set_cons_zero, List.set_cons_succ]
                  refine zcm (i := 6) (some 158) rfl rfl (by kernel_rfl) (by kernel_rfl) (by kernel_rfl) (by rfl) (fun _ _ _ h => h) (by assumption) ?_
                  simp only [Act.put, List.setIfInBounds_toArray, List.set_cons_zero, List.set_cons_succ]
                  refine zcm (i := 7) (some 159) rfl rfl (by kernel_rfl) (by kernel_rfl) (by kernel_rfl) (by rfl) (fun _ _ _ h => h) (by assumption) ?_
                  simp only [Act.put, List.setIfInBounds_toArray, List.set_cons_zero, List.set_cons_succ]
                  refine zcm (i := 8) (some 160) rfl rfl (by kernel_rfl) (by kernel_rfl) (by kernel_rfl) (by rfl) (fun _ _ _ h => h) (by assumption) ?_
                  simp only [Act.put, List.setIfInBounds_toArray, List.set_cons_zero, List.set_cons_succ]
                  refine zcm (i := 9) (some 161) rfl rfl (by kernel_rfl) (by kernel_rfl) (by kernel_rfl) (by rfl) (fun _ _ _ h => h) (by assumption) ?_
                  simp only [Act.put, List.setIfInBounds_toArray, List.set_cons_zero, List.set_cons_succ]
                  refine zcm (i := 10) (some 162) rfl rfl (by kernel_rfl) (by kernel_rfl) (by kernel_rfl) (by rfl) (fun _ _ _ h => h) (by assumption) ?_
                  simp only [Act.put, List.setIfInBounds_toArray, List.set_cons_zero, List.set_cons_succ]
                  refine zcm (i := 11) (some 163) rfl rfl (by kernel_rfl) (by kernel_rfl) (by kernel_rfl) (by rfl) (fun _ _ _ h => h) (by assumption) ?_
                  simp only [Act.put, List.setIfInBounds_toArray, List.set_cons_zero, List.set_cons_succ]
                  refine zcm (i := 12) (some 164) rfl rfl (by kernel_rfl) (by kernel_rfl) (by kernel_rfl) (by rfl) (fun _ _ _ h => h) (by assumption) ?_
                  simp only [Act.put, List.setIfInBounds_toArray, List.set_cons_zero, List.set_cons_succ]
                  refine zcm (i := 13) (some 165) rfl rfl (by kernel_rfl) (by kernel_rfl) (by kernel_rfl) (by rfl) (fun _ _ _ h => h) (by assumption) ?_
                  simp only [Act.put, List.setIfInBounds_toArray, List.set_cons_zero, List.set_cons_succ]
                  refine zbe (i := 14) (v := ?_) (some 166) rfl rfl (by kernel_rfl) (by kernel_rfl) (by kernel_rfl) (by rfl) (fun _ _ _ h => h) ?_ (by assumption) ?_
                  rotate_left 1
                  focus (intro w hSw; (try dsimp only at hSw); go_simp; (try (with_reducible rfl)))
                  simp only [Act.put, List.setIfInBounds_toArray, List.set_cons_zero, List.set_cons_succ]
                  refine zbe (i := 15) (v := ?_) (some 167) rfl rfl (by kernel_rfl) (by kernel_rfl) (by kernel_rfl) (by rfl) (fun _ _ _ h => h) ?_ (by assumption) ?_
                  rotate_left 1
                  focus (intro w hSw; (try dsimp only at hSw); go_simp; (try (with_reducible rfl)))
                  simp only [Act.put, List.setIfInBounds_toArray, List.set_cons_zero, List.set_cons_succ]
                  refine zbe (i := 16) (v := ?_) (some 168) rfl rfl (by kernel_rfl) (by kernel_rfl) (by kernel_rfl) (by rfl) (fun _ _ _ h => h) ?_ (by assumption) ?_
                  rotate_left 1
                  focus (intro w hSw; (try dsimp only at hSw); go_simp; (try (with_reducible rfl)))
                  simp only [Act.put, List.setIfInBounds_toArray, List.set_cons_zero, List.set_cons_succ]
                  refine zbe (i := 17) (v := ?_) (some 169) rfl rfl (by kernel_rfl) (by kernel_rfl) (by kernel_rfl) (by rfl) (fun _ _ _ h => h) ?_ (by assumption) ?_
                  rotate_left 1
                  focus (intro w hSw; (try dsimp only at hSw); go_simp; (try (with_reducible rfl)))
                  simp only [Act.put, List.setIfInBounds_toArray, List.set_cons_zero, List.set_cons_succ]
                  refine zbe (i := 18) (v := ?_) (some 170) rfl rfl (by kernel_rfl) (by kernel_rfl) (by kernel_rfl) (by rfl) (fun _ _ _ h => h) ?_ (by assumption) ?_
                  rotate_left 1
                  focus (intro w hSw; (try dsimp only at hSw); go_simp; (try (with_reducible rfl)))
                  simp only [Act.put, List.setIfInBounds_toArray, List.set_cons_zero, List.set_cons_succ]
                  refine zbe (i := 19) (v := ?_) (some 171) rfl rfl (by kernel_rfl) (by kernel_rfl) (by kernel_rfl) (by rfl) (fun _ _ _ h => h) ?_ (by assumption) ?_
                  rotate_left 1
                  focus (intro w hSw; (try dsimp only at hSw); go_simp; (try (with_reducible rfl)))
                  simp only [Act.put, List.setIfInBounds_toArray, List.set_cons_zero, List.set_cons_succ]
                  refine zbe (i := 20) (v := ?_) (some 172) rfl rfl (by kernel_rfl) (by kernel_rfl) (by kernel_rfl) (by rfl) (fun _ _ _ h => h) ?_ (by assumption) ?_
                  rotate_left 1
                  focus (intro w hSw; (try dsimp only at hSw); go_simp; (try (with_reducible rfl)))
                  simp only [Act.put, List.setIfInBounds_toArray, List.set_cons_zero, List.set_cons_succ]
                  refine zbe (i := 21) (v := ?_) (some 173) rfl rfl (by kernel_rfl) (by kernel_rfl) (by kernel_rfl) (by rfl) (fun _ _ _ h => h) ?_ (by assumption) ?_
                  rotate_left 1
                  focus (intro w hSw; (try dsimp only at hSw); go_simp; (try (with_reducible rfl)))
                  simp only [Act.put, List.setIfInBounds_toArray, List.set_cons_zero, List.set_cons_succ]
                  refine zbe (i := 22) (v := ?_) (some 174) rfl rfl (by kernel_rfl) (by kernel_rfl) (by kernel_rfl) (by rfl) (fun _ _ _ h => h) ?_ (by assumption) ?_
                  rotate_left 1
                  focus (intro w hSw; (try dsimp only at hSw); go_simp; (try (with_reducible rfl)))
                  simp only [Act.put, List.setIfInBounds_toArray, List.set_cons_zero, List.set_cons_succ]
                  refine zbe (i := 23) (v := ?_) (some 175) rfl rfl (by kernel_rfl) (by kernel_rfl) (by kernel_rfl) (by rfl) (fun _ _ _ h => h) ?_ (by assumption) ?_
                  rotate_left 1
                  focus (intro w hSw; (try dsimp only at hSw); go_simp; (try (with_reducible rfl)))
                  simp only [Act.put, List.setIfInBounds_toArray, List.set_cons_zero, List.set_cons_succ]
                  refine zbe (i := 24) (v := ?_) (some 176) rfl rfl (by kernel_rfl) (by kernel_rfl) (by kernel_rfl) (by rfl) (fun _ _ _ h => h) ?_ (by assumption) ?_
                  rotate_left 1
                  focus (intro w hSw; (try dsimp only at hSw); go_simp; (try (with_reducible rfl)))
                  simp only [Act.put, List.setIfInBounds_toArray, List.set_cons_zero, List.set_cons_succ]
                  refine zbe (i := 25) (v := ?_) (some 177) rfl rfl (by kernel_rfl) (by kernel_rfl) (by kernel_rfl) (by rfl) (fun _ _ _ h => h) ?_ (by assumption) ?_
                  rotate_left 1
                  focus (intro w hSw; (try dsimp only at hSw); go_simp; (try (with_reducible rfl)))
                  simp only [Act.put, List.setIfInBounds_toArray, List.set_cons_zero, List.set_cons_succ]
                  refine zbe (i := 26) (v := ?_) (some 178) rfl rfl (by kernel_rfl) (by kernel_rfl) (by kernel_rfl) (by rfl) (fun _ _ _ h => h) ?_ (by assumption) ?_
                  rotate_left 1
                  focus (intro w hSw; (try dsimp only at hSw); go_simp; (try (with_reducible rfl)))
                  simp only [Act.put, List.setIfInBounds_toArray, List.set_cons_zero, List.set_cons_succ]
                  refine zbe (i := 27) (v := ?_) (some 179) rfl rfl (by kernel_rfl) (by kernel_rfl) (by kernel_rfl) (by rfl) (fun _ _ _ h => h) ?_ (by assumption) ?_
                  rotate_left 1
                  focus (intro w hSw; (try dsimp only at hSw); go_simp; (try (with_reducible rfl)))
                  simp only [Act.put, List.setIfInBounds_toArray, List.set_cons_zero, List.set_cons_succ]
                  refine wpAnyH_ready (rs := [28]) (by kernel_rfl) (by simp) ?_
                  refine AllReadyH.cons rfl (fun K hK => ?_) AllReadyH.nil
                  go_simp
                  go_at_call 27
                  (with_reducible refine Calls.mono (D4.out _ (by (repeat (first | exact Below.refl _ _ | assumption | refine zae ?_ _ | refine zag ?_ | refine zaf ?_ ?_ _ _ _ | refine zaj ?_ (by omega) | refine zaa ?_ (by assumption))); (first | done | fail))) ?_)
                  rintro e w4 ⟨rfl, hb4⟩
                  go_wp2_with fail
                  refine hK.out _ _ (HS.out _ (by (repeat (first | exact Below.refl _ _ | assumption | refine zae ?_ _ | refine zag ?_ | refine zaf ?_ ?_ _ _ _ | refine zaj ?_ (by omega) | refine zaa ?_ (by assumption))); (first | done | fail))) (fun hHeld => ?_)
                  clear hK K
                  refine zbe (i := 29) (v := ?_) (some 181) rfl rfl (by kernel_rfl) (by kernel_rfl) (by kernel_rfl) (by rfl) (fun _ _ _ h => h) ?_ (by assumption) ?_
                  rotate_left 1
                  focus (intro w hSw; (try dsimp only at hSw); go_simp; (try (with_reducible rfl)))
                  simp only [Act.put, List.setIfInBounds_toArray, List.set_cons_zero, List.set_cons_succ]
                  refine zbe (i := 30) (v := ?_) (some 182) rfl rfl (by kernel_rfl) (by kernel_rfl) (by kernel_rfl) (by rfl) (fun _ _ _ h => h) ?_ (by assumption) ?_
                  rotate_left 1
                  focus (intro w hSw; (try dsimp only at hSw); go_simp; (try (with_reducible rfl)))
                  simp only [Act.put, List.setIfInBounds_toArray, List.set_cons_zero, List.set_cons_succ]
                  refine zbe (i := 31) (v := ?_) (some 183) rfl rfl (by kernel_rfl) (by kernel_rfl) (by kernel_rfl) (by rfl) (fun _ _ _ h => h) ?_ (by assumption) ?_
                  rotate_left 1
                  focus (intro w hSw; (try dsimp only at hSw); go_simp; (try (with_reducible rfl)))
                  simp only [Act.put, List.setIfInBounds_toArray, List.set_cons_zero, List.set_cons_succ]
                  refine wpAnyH_done (by kernel_rfl) ?_ _
                  refine NoPanic.normal ?_
                  go_wp2_with fail
                  go_roundw
                  case rel => exact ⟨k + 1, Hlk.out, by go_num, zaa HWk.out (by (repeat (first | exact Below.refl _ _ | assumption | refine zae ?_ _ | refine zag ?_ | refine zaf ?_ ?_ _ _ _ | refine zaj ?_ (by omega) | refine zaa ?_ (by assumption))); (first | done | fail))⟩
                  case measure => have := Hlk.out; simp [intOf]; omega
              · obtain rfl : N = k := by omega
                have hkk : ¬ N < N := by omega
                clear hbk
                go_wp2_with fail
                go_roundw
                case rel => exact ⟨i + 1, Hlt.out, by go_num, zaa HW.out HWk.out⟩
                case measure => have := Hlt.out; simp [intOf]; omega
          · obtain ⟨i1, c1, hi1, hc1c, q0⟩ := HPQ.out h0
            have hi0 : (0 : Int) < (i : Int) := by omega
            have hj1 : (i : Int) - 1 = (i1 : Int) := by omega
            have hj2 : IntKind.i64.wrap (i1 : Int) = (i1 : Int) := IntWalk.i64_in _ (by omega)
            have hj3 : (0 : Int) ≤ (i1 : Int) := by omega
            have hj4 : (i1 : Int) < (np : Int) := by omega
            have hj5 : ¬ ((cc : Int) ≤ (c1 : Int)) := by omega
            clear hi1 hc1c
            clear h0
            go_wp2_with fail
            refine (zero_l Hz.out rfl).mono ?_
            rintro e wz ⟨rfl, hwz⟩
            obtain rfl : wo = wz := hwz.symm
            go_wp2_with fail
            go_loopw [17] (fun kk wr => ∃ k : Nat, k ≤ N ∧ kk = .int .i64 (k : Int) ∧ Below wo.heap.size wo wr) (fun kk _ => N - (intOf kk).toNat)
            case atStart => exact ⟨0, Nat.zero_le _, rfl, Below.refl _ _⟩
            case round =>
              obtain ⟨wi, rfl⟩ : ∃ x, x = wr := ⟨_, rfl⟩
              obtain ⟨k, hk, rfl, hbk⟩ := hrel
              have HWk := Lib.hid hbk
              have Fk := Lib.hid (IsM.stb.next Fo.out hbk)
              rcases Nat.lt_or_ge k N with hlt | hge
              · have hfr : (rawM (zcu s MM N))[k]? = some (rawV (rowQ s.A s.piv.length s.d k 0 MM)) := by rw [rawM, List.getElem?_map, zfr hlt]; rfl
                obtain ⟨b1, o1, Pb, kb, eFA, _, elb, eb⟩ := zcj Fk.out hfr
                cases eFA
                rw [zbh, zdi] at elb eb
                obtain ⟨r, hr⟩ : ∃ r, r = raw (atQ s.A s.piv.length s.d k cc) := ⟨_, rfl⟩
                have hrow : (rawV (rowQ s.A s.piv.length s.d k 0 MM))[cc]? = some r := by rw [rawV, List.getElem?_map, rowQ_get Hcm.out, Nat.zero_add, hr]; rfl
                obtain ⟨bR, oR, X1, X2, X3, X4, rfl, _, elr, c0, c1, c2⟩ := zcs elb hrow
                have hu := HE.out.unit (i := k) (t := i) Hip.out
                rw [Hgd.out] at hu
                rw [hu] at hr
                have ELR := Lib.hid elr
                have E := Lib.hid (And.intro eb (And.intro c0 (And.intro c1 c2)))
                have Hlk := Lib.hid hlt
                have hk0 : (0 : Int) ≤ (k : Int) := by omega
                have hk9 : (k : Int) < (N : Int) := by omega
                have hc9 : (cc : Int) < (MM : Int) := by have := Hcm.out; omega
                have cr := zbn
                by_cases hki : k = i
                · rw [if_pos hki] at hr
                  obtain ⟨q1, hq1⟩ : ∃ q, q = zdf 1 1 := ⟨_, rfl⟩
                  have Hq1 := Lib.hid hq1
                  have Hrq : Hid (r = raw q1) := by rw [Hid, hr, hq1]; rfl
                  obtain rfl : k = i := hki
                  clear hr hq1 hu elr elb hrow hfr hbk hlt c0 c1 c2 eb
                  go_wp2_with fail
                  have HS : Hid (∀ W : World, Below wi.heap.size wi W → W.cell? ⟨bF, oF + k, none⟩ = some (.slice (some ⟨bR, oR, none⟩) MM kb) ∧ W.cell? ⟨bR, oR + cc * 3, none⟩ = some (.bool r.neg) ∧ W.cell? ⟨bR, oR + cc * 3 + 1, none⟩ = some (.slice X1 r.num.length X2) ∧ W.cell? ⟨bR, oR + cc * 3 + 2, none⟩ = some (.slice X3 r.den.length X4)) := fun W hW => ⟨zab hW E.out.1, zab hW E.out.2.1, zab hW E.out.2.2.1, zab hW E.out.2.2.2⟩
                  have D4 : Hid (∀ W : World, Below wi.heap.size wi W → Calls Tryd.prog 21 #[.int .i64 1, .int .i64 1] W (RetQ W q1)) := fun W hW => by rw [Hq1.out]; exact ratof_q (a := 1) (b := 1) (by decide) (by decide) (by decide)
                  refine wp_region_noPanic ?_
                  refine wp_region_held_drew (S := fun w' => w'.cell? ⟨bF, oF + k, none⟩ = some (.slice (some ⟨bR, oR, none⟩) MM kb) ∧ w'.cell? ⟨bR, oR + cc * 3, none⟩ = some (.bool r.neg) ∧ w'.cell? ⟨bR, oR + cc * 3 + 1, none⟩ = some (.slice X1 r.num.length X2) ∧ w'.cell? ⟨bR, oR + cc * 3 + 2, none⟩ = some (.slice X3 r.den.length X4)) (by kernel_rfl) (HS.out _ (by (repeat (first | exact Below.refl _ _ | assumption | refine zae ?_ _ | refine zag ?_ | refine zaf ?_ ?_ _ _ _ | refine zaj ?_ (by omega) | refine zaa ?_ (by assumption))); (first | done | fail))) (fun hHeld => ?_)
                  refine zbe (i := 0) (v := ?_) (some 152) rfl rfl (by kernel_rfl) (by kernel_rfl) (by kernel_rfl) (by rfl) (fun _ _ _ h => h) ?_ (by assumption) ?_
                  rotate_left 1
                  focus (intro w hSw; (try dsimp only at hSw); go_simp; (try (with_reducible rfl)))
                  simp only [Act.put, List.setIfInBounds_toArray, List.set_cons_zero, List.set_cons_succ]
                  refine zbe (i := 1) (v := ?_) (some 153) rfl rfl (by kernel_rfl) (by kernel_rfl) (by kernel_rfl) (by rfl) (fun _ _ _ h => h) ?_ (by assumption) ?_
                  rotate_left 1
                  focus (intro w hSw; (try dsimp only at hSw); go_simp; (try (with_reducible rfl)))
                  simp only [Act.put, List.setIfInBounds_toArray, List.set_cons_zero, List.set_cons_succ]
                  refine zbe (i := 2) (v := ?_) (some 154) rfl rfl (by kernel_rfl) (by kernel_rfl) (by kernel_rfl) (by rfl) (fun _ _ _ h => h) ?_ (by assumption) ?_
                  rotate_left 1
                  focus (intro w hSw; (try dsimp only at hSw); go_simp; (try (with_reducible rfl)))
                  simp only [Act.put, List.setIfInBounds_toArray, List.set_cons_zero, List.set_cons_succ]
                  refine zbe (i := 3) (v := ?_) (some 155) rfl rfl (by kernel_rfl) (by kernel_rfl) (by kernel_rfl) (by rfl) (fun _ _ _ h => h) ?_ (by assumption) ?_
                  rotate_left 1
                  focus (intro w hSw; (try dsimp only at hSw); go_simp; (try (with_reducible rfl)))
                  simp only [Act.put, List.setIfInBounds_toArray, List.set_cons_zero, List.set_cons_succ]
                  refine zbe (i := 4) (v := ?_) (some 156) rfl rfl (by kernel_rfl) (by kernel_rfl) (by kernel_rfl) (by rfl) (fun _ _ _ h => h) ?_ (by assumption) ?_
                  rotate_left 1
                  focus (intro w hSw; (try dsimp only at hSw); go_simp; (try (with_reducible rfl)))
                  simp only [Act.put, List.setIfInBounds_toArray, List.set_cons_zero, List.set_cons_succ]
                  refine zbe (i := 5) (v := ?_) (some 157) rfl rfl (by kernel_rfl) (by kernel_rfl) (by kernel_rfl) (by rfl) (fun _ _ _ h => h) ?_ (by assumption) ?_
                  rotate_left 1
                  focus (intro w hSw; (try dsimp only at hSw); go_simp; (try (with_reducible rfl)))
                  simp only [Act.put, List.setIfInBounds_toArray, List.set_cons_zero, List.set_cons_succ]
                  refine zbe (i := 6) (v := ?_) (some 158) rfl rfl (by kernel_rfl) (by kernel_rfl) (by kernel_rfl) (by rfl) (fun _ _ _ h => h) ?_ (by assumption) ?_
                  rotate_left 1
                  focus (intro w hSw; (try dsimp only at hSw); go_simp; (try (with_reducible rfl)))
                  simp only [Act.put, List.setIfInBounds_toArray, List.set_cons_zero, List.set_cons_succ]
                  refine zbe (i := 7) (v := ?_) (some 159) rfl rfl (by kernel_rfl) (by kernel_rfl) (by kernel_rfl) (by rfl) (fun _ _ _ h => h) ?_ (by assumption) ?_
                  rotate_left 1
                  focus (intro w hSw; (try dsimp only at hSw); go_simp; (try (with_reducible rfl)))
                  simp only [Act.put, List.setIfInBounds_toArray, List.set_cons_zero, List.set_cons_succ]
                  refine zbe (i := 8) (v := ?_) (some 160) rfl rfl (by kernel_rfl) (by kernel_rfl) (by kernel_rfl) (by rfl) (fun _ _ _ h => h) ?_ (by assumption) ?_
                  rotate_left 1
                  focus (intro w hSw; (try dsimp only at hSw); go_simp; (try (with_reducible rfl)))
                  simp only [Act.put, List.setIfInBounds_toArray, List.set_cons_zero, List.set_cons_succ]
                  refine zbe (i := 9) (v := ?_) (some 161) rfl rfl (by kernel_rfl) (by kernel_rfl) (by kernel_rfl) (by rfl) (fun _ _ _ h => h) ?_ (by assumption) ?_
                  rotate_left 1
                  focus (intro w hSw; (try dsimp only at hSw); go_simp; (try (with_reducible rfl)))
                  simp only [Act.put, List.setIfInBounds_toArray, List.set_cons_zero, List.set_cons_succ]
                  refine zbe (i := 10) (v := ?_) (some 162) rfl rfl (by kernel_rfl) (by kernel_rfl) (by kernel_rfl) (by rfl) (fun _ _ _ h => h) ?_ (by assumption) ?_
                  rotate_left 1
                  focus (intro w hSw; (try dsimp only at hSw); go_simp; (try (with_reducible rfl)))
                  simp only [Act.put, List.setIfInBounds_toArray, List.set_cons_zero, List.set_cons_succ]
                  refine wpAnyH_ready (rs := [11]) (by kernel_rfl) (by simp) ?_
                  refine AllReadyH.cons rfl (fun K hK => ?_) AllReadyH.nil
                  go_simp
                  go_at_call 21
                  (with_reducible refine Calls.mono (D4.out _ (by (repeat (first | exact Below.refl _ _ | assumption | refine zae ?_ _ | refine zag ?_ | refine zaf ?_ ?_ _ _ _ | refine zaj ?_ (by omega) | refine zaa ?_ (by assumption))); (first | done | fail))) ?_)
                  rintro e w4 ⟨⟨v4, rfl, hv4⟩, hb4⟩
                  have V4 := Lib.hid (IsQ.stb.old hv4)
                  obtain ⟨s4, P4, k4, O4, l4, rfl, _, _, _⟩ := zam hv4
                  have D5 : Hid (∀ W : World, Below w4.heap.size w4 W → Calls Tryd.prog 20 #[.agg #[.bool r.neg, .slice X1 r.num.length X2, .slice X3 r.den.length X4], .agg #[.bool s4, .slice P4 (lim q1.num.natAbs).length k4, .slice O4 (lim q1.den).length l4]] W (fun e w' => e = .returned (.bool true) ∧ Below W.heap.size W w')) := fun W hW => by have h := same_r (IsR.stb.next ELR.out (by (repeat (first | exact Below.refl _ _ | assumption | refine zae ?_ _ | refine zag ?_ | refine zaf ?_ ?_ _ _ _ | refine zaj ?_ (by omega) | refine zaa ?_ (by assumption))); (first | done | fail))) (IsQ.stb.next V4.out hW); rw [decide_eq_true Hrq.out] at h; exact h
                  go_wp2_with fail
                  refine hK.out _ _ (HS.out _ (by (repeat (first | exact Below.refl _ _ | assumption | refine zae ?_ _ | refine zag ?_ | refine zaf ?_ ?_ _ _ _ | refine zaj ?_ (by omega) | refine zaa ?_ (by assumption))); (first | done | fail))) (fun hHeld => ?_)
                  clear hK K
                  refine wpAnyH_ready (rs := [12]) (by kernel_rfl) (by simp) ?_
                  refine AllReadyH.cons rfl (fun K hK => ?_) AllReadyH.nil
                  go_simp
                  go_at_call 20
                  (with_reducible refine Calls.mono (D5.out _ (by (repeat (first | exact Below.refl _ _ | assumption | refine zae ?_ _ | refine zag ?_ | refine zaf ?_ ?_ _ _ _ | refine zaj ?_ (by omega) | refine zaa ?_ (by assumption))); (first | done | fail))) ?_)
                  rintro e w5 ⟨rfl, hb5⟩
                  go_wp2_with fail
                  refine hK.out _ _ (HS.out _ (by (repeat (first | exact Below.refl _ _ | assumption | refine zae ?_ _ | refine zag ?_ | refine zaf ?_ ?_ _ _ _ | refine zaj ?_ (by omega) | refine zaa ?_ (by assumption))); (first | done | fail))) (fun hHeld => ?_)
                  clear hK K
                  refine zbe (i := 13) (v := ?_) (some 165) rfl rfl (by kernel_rfl) (by kernel_rfl) (by kernel_rfl) (by rfl) (fun _ _ _ h => h) ?_ (by assumption) ?_
                  rotate_left 1
                  focus (intro w hSw; (try dsimp only at hSw); go_simp; (try (with_reducible rfl)))
                  simp only [Act.put, List.setIfInBounds_toArray, List.set_cons_zero, List.set_cons_succ]
                  refine zbe (i := 14) (v := ?_) (some 166) rfl rfl (by kernel_rfl) (by kernel_rfl) (by kernel_rfl) (by rfl) (fun _ _ _ h => h) ?_ (by assumption) ?_
                  rotate_left 1
                  focus (intro w hSw; (try dsimp only at hSw); go_simp; (try (with_reducible rfl)))
                  simp only [Act.put, List.setIfInBounds_toArray, List.set_cons_zero, List.set_cons_succ]
                  refine zbe (i := 15) (v := ?_) (some 167) rfl rfl (by kernel_rfl) (by kernel_rfl) (by kernel_rfl) (by rfl) (fun _ _ _ h => h) ?_ (by assumption) ?_
                  rotate_left 1
                  focus (intro w hSw; (try dsimp only at hSw); go_simp; (try (with_reducible rfl)))
                  simp only [Act.put, List.setIfInBounds_toArray, List.set_cons_zero, List.set_cons_succ]
                  refine zbe (i := 16) (v := ?_) (some 168) rfl rfl (by kernel_rfl) (by kernel_rfl) (by kernel_rfl) (by rfl) (fun _ _ _ h => h) ?_ (by assumption) ?_
                  rotate_left 1
                  focus (intro w hSw; (try dsimp only at hSw); go_simp; (try (with_reducible rfl)))
                  simp only [Act.put, List.setIfInBounds_toArray, List.set_cons_zero, List.set_cons_succ]
                  refine zbe (i := 17) (v := ?_) (some 169) rfl rfl (by kernel_rfl) (by kernel_rfl) (by kernel_rfl) (by rfl) (fun _ _ _ h => h) ?_ (by assumption) ?_
                  rotate_left 1
                  focus (intro w hSw; (try dsimp only at hSw); go_simp; (try (with_reducible rfl)))
                  simp only [Act.put, List.setIfInBounds_toArray, List.set_cons_zero, List.set_cons_succ]
                  refine zbe (i := 18) (v := ?_) (some 170) rfl rfl (by kernel_rfl) (by kernel_rfl) (by kernel_rfl) (by rfl) (fun _ _ _ h => h) ?_ (by assumption) ?_
                  rotate_left 1
                  focus (intro w hSw; (try dsimp only at hSw); go_simp; (try (with_reducible rfl)))
                  simp only [Act.put, List.setIfInBounds_toArray, List.set_cons_zero, List.set_cons_succ]
                  refine zbe (i := 19) (v := ?_) (some 171) rfl rfl (by kernel_rfl) (by kernel_rfl) (by kernel_rfl) (by rfl) (fun _ _ _ h => h) ?_ (by assumption) ?_
                  rotate_left 1
                  focus (intro w hSw; (try dsimp only at hSw); go_simp; (try (with_reducible rfl)))
                  simp only [Act.put, List.setIfInBounds_toArray, List.set_cons_zero, List.set_cons_succ]
                  refine zcm (i := 20) (some 172) rfl rfl (by kernel_rfl) (by kernel_rfl) (by kernel_rfl) (by rfl) (fun _ _ _ h => h) (by assumption) ?_
                  simp only [Act.put, List.setIfInBounds_toArray, List.set_cons_zero, List.set_cons_succ]
                  refine zcm (i := 21) (some 173) rfl rfl (by kernel_rfl) (by kernel_rfl) (by kernel_rfl) (by rfl) (fun _ _ _ h => h) (by assumption) ?_
                  simp only [Act.put, List.setIfInBounds_toArray, List.set_cons_zero, List.set_cons_succ]
                  refine zcm (i := 22) (some 174) rfl rfl (by kernel_rfl) (by kernel_rfl) (by kernel_rfl) (by rfl) (fun _ _ _ h => h) (by assumption) ?_
                  simp only [Act.put, List.setIfInBounds_toArray, List.set_cons_zero, List.set_cons_succ]
                  refine zcm (i := 23) (some 175) rfl rfl (by kernel_rfl) (by kernel_rfl) (by kernel_rfl) (by rfl) (fun _ _ _ h => h) (by assumption) ?_
                  simp only [Act.put, List.setIfInBounds_toArray, List.set_cons_zero, List.set_cons_succ]
                  refine zcm (i := 24) (some 176) rfl rfl (by kernel_rfl) (by kernel_rfl) (by kernel_rfl) (by rfl) (fun _ _ _ h => h) (by assumption) ?_
                  simp only [Act.put, List.setIfInBounds_toArray, List.set_cons_zero, List.set_cons_succ]
                  refine zcm (i := 25) (some 177) rfl rfl (by kernel_rfl) (by kernel_rfl) (by kernel_rfl) (by rfl) (fun _ _ _ h => h) (by assumption) ?_
                  simp only [Act.put, List.setIfInBounds_toArray, List.set_cons_zero, List.set_cons_succ]
                  refine zcm (i := 26) (some 178) rfl rfl (by kernel_rfl) (by kernel_rfl) (by kernel_rfl) (by rfl) (fun _ _ _ h => h) (by assumption) ?_
                  simp only [Act.put, List.setIfInBounds_toArray, List.set_cons_zero, List.set_cons_succ]
                  refine zcm (i := 27) (some 179) rfl rfl (by kernel_rfl) (by kernel_rfl) (by kernel_rfl) (by rfl) (fun _ _ _ h => h) (by assumption) ?_
                  simp only [Act.put, List.setIfInBounds_toArray, List.set_cons_zero, List.set_cons_succ]
                  refine zcm (i := 28) (some 180) rfl rfl (by kernel_rfl) (by kernel_rfl) (by kernel_rfl) (by rfl) (fun _ _ _ h => h) (by assumption) ?_
                  simp only [Act.put, List.setIfInBounds_toArray, List.set_cons_zero, List.set_cons_succ]
                  refine zcm (i := 29) (some 181) rfl rfl (by kernel_rfl) (by kernel_rfl) (by kernel_rfl) (by rfl) (fun _ _ _ h => h) (by assumption) ?_
                  simp only [Act.put, List.setIfInBounds_toArray, List.set_cons_zero, List.set_cons_succ]
                  refine zbe (i := 30) (v := ?_) (some 182) rfl rfl (by kernel_rfl) (by kernel_rfl) (by kernel_rfl) (by rfl) (fun _ _ _ h => h) ?_ (by assumption) ?_
                  rotate_left 1
                  focus (intro w hSw; (try dsimp only at hSw); go_simp; (try (with_reducible rfl)))
                  simp only [Act.put, List.setIfInBounds_toArray, List.set_cons_zero, List.set_cons_succ]
                  refine zbe (i := 31) (v := ?_) (some 183) rfl rfl (by kernel_rfl) (by kernel_rfl) (by kernel_rfl) (by rfl) (fun _ _ _ h => h) ?_ (by assumption) ?_
                  rotate_left 1
                  focus (intro w hSw; (try dsimp only at hSw); go_simp; (try (with_reducible rfl)))
                  simp only [Act.put, List.setIfInBounds_toArray, List.set_cons_zero, List.set_cons_succ]
                  refine wpAnyH_done (by kernel_rfl) ?_ _
                  refine NoPanic.normal ?_
                  go_wp2_with fail
                  go_roundw
                  case rel => exact ⟨k + 1, Hlk.out, by go_num, zaa HWk.out (by (repeat (first | exact Below.refl _ _ | assumption | refine zae ?_ _ | refine zag ?_ | refine zaf ?_ ?_ _ _ _ | refine zaj ?_ (by omega) | refine zaa ?_ (by assumption))); (first | done | fail))⟩
                  case measure => have := Hlk.out; simp [intOf]; omega
                · rw [if_neg hki] at hr
                  have hz2 := isV_at elb hrow
                  have hcap3 := (IsS.cap elb).1
                  have hcap4 := (IsS.cap elb).2
                  have hr1 : [r] = rawV (List.replicate 1 0) := by rw [hr]; rfl
                  rw [hr1] at hz2
                  have Hz2 := Lib.hid hz2
                  have hki1 : ((k : Int) == (i : Int)) = false := beq_eq_false_iff_ne.2 (by omega)
                  have hki2 : ((k : Int) != (i : Int)) = true := bne_iff_ne.2 (by omega)
                  have hcw : IntKind.i64.wrap ((cc : Int) + 1) = (cc : Int) + 1 := IntWalk.i64_in _ (by omega)
                  have hck : (cc : Int) + 1 ≤ (kb : Int) := by omega
                  have hcz : (0 : Int) ≤ (cc : Int) + 1 := by omega
                  have hkc : ¬ (kb = cc) := by omega
                  clear hr hr1 hz2 hu elr elb hrow hfr hbk hlt c0 c1 c2 eb hcap3 hki
                  go_wp2_with fail
                  have HS : Hid (∀ W : World, Below wi.heap.size wi W → W.cell? ⟨bF, oF + k, none⟩ = some (.slice (some ⟨bR, oR, none⟩) MM kb) ∧ W.cell? ⟨bR, oR + cc * 3, none⟩ = some (.bool r.neg) ∧ W.cell? ⟨bR, oR + cc * 3 + 1, none⟩ = some (.slice X1 r.num.length X2) ∧ W.cell? ⟨bR, oR + cc * 3 + 2, none⟩ = some (.slice X3 r.den.length X4)) := fun W hW => ⟨zab hW E.out.1, zab hW E.out.2.1, zab hW E.out.2.2.1, zab hW E.out.2.2.2⟩
                  have D4 : Hid (∀ W : World, Below wi.heap.size wi W → Calls Tryd.prog 27 #[.slice (some ⟨bR, oR + cc * 3, none⟩) 1 (kb - cc), .int .i64 1] W (fun e w' => e = .returned (.bool true) ∧ Below W.heap.size W w')) := fun W hW => (zero_l (n := 1) (IsV.stb.next Hz2.out hW) rfl).mono fun e w' h => ⟨h.1, by rw [h.2]; exact Below.refl _ _⟩
                  refine wp_region_noPanic ?_
                  refine wp_region_held_drew (S := fun w' => w'.cell? ⟨bF, oF + k, none⟩ = some (.slice (some ⟨bR, oR, none⟩) MM kb) ∧ w'.cell? ⟨bR, oR + cc * 3, none⟩ = some (.bool r.neg) ∧ w'.cell? ⟨bR, oR + cc * 3 + 1, none⟩ = some (.slice X1 r.num.length X2) ∧ w'.cell? ⟨bR, oR + cc * 3 + 2, none⟩ = some (.slice X3 r.den.length X4)) (by kernel_rfl) (HS.out _ (by (repeat (first | exact Below.refl _ _ | assumption | refine zae ?_ _ | refine zag ?_ | refine zaf ?_ ?_ _ _ _ | refine zaj ?_ (by omega) | refine zaa ?_ (by assumption))); (first | done | fail))) (fun hHeld => ?_)
                  refine zbe (i := 0) (v := ?_) (some 152) rfl rfl (by kernel_rfl) (by kernel_rfl) (by kernel_rfl) (by rfl) (fun _ _ _ h => h) ?_ (by assumption) ?_
                  rotate_left 1
                  focus (intro w hSw; (try dsimp only at hSw); go_simp; (try (with_reducible rfl)))
                  simp only [Act.put, List.setIfInBounds_toArray, List.set_cons_zero, List.set_cons_succ]
                  refine zbe (i := 1) (v := ?_) (some 153) rfl rfl (by kernel_rfl) (by kernel_rfl) (by kernel_rfl) (by rfl) (fun _ _ _ h => h) ?_ (by assumption) ?_
                  rotate_left 1
                  focus (intro w hSw; (try dsimp only at hSw); go_simp; (try (with_reducible rfl)))
                  simp only [Act.put, List.setIfInBounds_toArray, List.set_cons_zero, List.set_cons_succ]
                  refine zbe (i := 2) (v := ?_) (some 154) rfl rfl (by kernel_rfl) (by kernel_rfl) (by kernel_rfl) (by rfl) (fun _ _ _ h => h) ?_ (by assumption) ?_
                  rotate_left 1
                  focus (intro w hSw; (try dsimp only at hSw); go_simp; (try (with_reducible rfl)))
                  simp only [Act.put, List.setIfInBounds_toArray, List.set_cons_zero, List.set_cons_succ]
                  refine zbe (i := 3) (v := ?_) (some 155) rfl rfl (by kernel_rfl) (by kernel_rfl) (by kernel_rfl) (by rfl) (fun _ _ _ h => h) ?_ (by assumption) ?_
                  rotate_left 1
                  focus (intro w hSw; (try dsimp only at hSw); go_simp; (try (with_reducible rfl)))
                  simp only [Act.put, List.setIfInBounds_toArray, List.set_cons_zero, List.set_cons_succ]
                  refine zcm (i := 4) (some 156) rfl rfl (by kernel_rfl) (by kernel_rfl) (by kernel_rfl) (by rfl) (fun _ _ _ h => h) (by assumption) ?_
                  simp only [Act.put, List.setIfInBounds_toArray, List.set_cons_zero, List.set_cons_succ]
                  refine zcm (i := 5) (some 157) rfl rfl (by kernel_rfl) (by kernel_rfl) (by kernel_rfl) (by rfl) (fun _ _ _ h => h) (by assumption) ?_
                  simp only [Act.put, List.setIfInBounds_toArray, List.set_cons_zero, List.set_cons_succ]
                  refine zcm (i := 6) (some 158) rfl rfl (by kernel_rfl) (by kernel_rfl) (by kernel_rfl) (by rfl) (fun _ _ _ h => h) (by assumption) ?_
                  simp only [Act.put, List.setIfInBounds_toArray, List.set_cons_zero, List.set_cons_succ]
                  refine zcm (i := 7) (some 159) rfl rfl (by kernel_rfl) (by kernel_rfl) (by kernel_rfl) (by rfl) (fun _ _ _ h => h) (by assumption) ?_
                  simp only [Act.put, List.setIfInBounds_toArray, List.set_cons_zero, List.set_cons_succ]
                  refine zcm (i := 8) (some 160) rfl rfl (by kernel_rfl) (by kernel_rfl) (by kernel_rfl) (by rfl) (fun _ _ _ h => h) (by assumption) ?_
                  simp only [Act.put, List.setIfInBounds_toArray, List.set_cons_zero, List.set_cons_succ]
                  refine zcm (i := 9) (some 161) rfl rfl (by kernel_rfl) (by kernel_rfl) (by kernel_rfl) (by rfl) (fun _ _ _ h => h) (by assumption) ?_
                  simp only [Act.put, List.setIfInBounds_toArray, List.set_cons_zero, List.set_cons_succ]
                  refine zcm (i := 10) (some 162) rfl rfl (by kernel_rfl) (by kernel_rfl) (by kernel_rfl) (by rfl) (fun _ _ _ h => h) (by assumption) ?_
                  simp only [Act.put, List.setIfInBounds_toArray, List.set_cons_zero, List.set_cons_succ]
                  refine zcm (i := 11) (some 163) rfl rfl (by kernel_rfl) (by kernel_rfl) (by kernel_rfl) (by rfl) (fun _ _ _ h => h) (by assumption) ?_
                  simp only [Act.put, List.setIfInBounds_toArray, List.set_cons_zero, List.set_cons_succ]
                  refine zcm (i := 12) (some 164) rfl rfl (by kernel_rfl) (by kernel_rfl) (by kernel_rfl) (by rfl) (fun _ _ _ h => h) (by assumption) ?_
                  simp only [Act.put, List.setIfInBounds_toArray, List.set_cons_zero, List.set_cons_succ]
                  refine zcm (i := 13) (some 165) rfl rfl (by kernel_rfl) (by kernel_rfl) (by kernel_rfl) (by rfl) (fun _ _ _ h => h) (by assumption) ?_
                  simp only [Act.put, List.setIfInBounds_toArray, List.set_cons_zero, List.set_cons_succ]
                  refine zbe (i := 14) (v := ?_) (some 166) rfl rfl (by kernel_rfl) (by kernel_rfl) (by kernel_rfl) (by rfl) (fun _ _ _ h => h) ?_ (by assumption) ?_
                  rotate_left 1
                  focus (intro w hSw; (try dsimp only at hSw); go_simp; (try (with_reducible rfl)))
                  simp only [Act.put, List.setIfInBounds_toArray, List.set_cons_zero, List.set_cons_succ]
                  refine zbe (i := 15) (v := ?_) (some 167) rfl rfl (by kernel_rfl) (by kernel_rfl) (by kernel_rfl) (by rfl) (fun _ _ _ h => h) ?_ (by assumption) ?_
                  rotate_left 1
                  focus (intro w hSw; (try dsimp only at hSw); go_simp; (try (with_reducible rfl)))
                  simp only [Act.put, List.setIfInBounds_toArray, List.set_cons_zero, List.set_cons_succ]
                  refine zbe (i := 16) (v := ?_) (some 168) rfl rfl (by kernel_rfl) (by kernel_rfl) (by kernel_rfl) (by rfl) (fun _ _ _ h => h) ?_ (by assumption) ?_
                  rotate_left 1
                  focus (intro w hSw; (try dsimp only at hSw); go_simp; (try (with_reducible rfl)))
                  simp only [Act.put, List.setIfInBounds_toArray, List.set_cons_zero, List.set_cons_succ]
                  refine zbe (i := 17) (v := ?_) (some 169) rfl rfl (by kernel_rfl) (by kernel_rfl) (by kernel_rfl) (by rfl) (fun _ _ _ h => h) ?_ (by assumption) ?_
                  rotate_left 1
                  focus (intro w hSw; (try dsimp only at hSw); go_simp; (try (with_reducible rfl)))
                  simp only [Act.put, List.setIfInBounds_toArray, List.set_cons_zero, List.set_cons_succ]
                  refine zbe (i := 18) (v := ?_) (some 170) rfl rfl (by kernel_rfl) (by kernel_rfl) (by kernel_rfl) (by rfl) (fun _ _ _ h => h) ?_ (by assumption) ?_
                  rotate_left 1
                  focus (intro w hSw; (try dsimp only at hSw); go_simp; (try (with_reducible rfl)))
                  simp only [Act.put, List.setIfInBounds_toArray, List.set_cons_zero, List.set_cons_succ]
                  refine zbe (i := 19) (v := ?_) (some 171) rfl rfl (by kernel_rfl) (by kernel_rfl) (by kernel_rfl) (by rfl) (fun _ _ _ h => h) ?_ (by assumption) ?_
                  rotate_left 1
                  focus (intro w hSw; (try dsimp only at hSw); go_simp; (try (with_reducible rfl)))
                  simp only [Act.put, List.setIfInBounds_toArray, List.set_cons_zero, List.set_cons_succ]
                  refine zbe (i := 20) (v := ?_) (some 172) rfl rfl (by kernel_rfl) (by kernel_rfl) (by kernel_rfl) (by rfl) (fun _ _ _ h => h) ?_ (by assumption) ?_
                  rotate_left 1
                  focus (intro w hSw; (try dsimp only at hSw); go_simp; (try (with_reducible rfl)))
                  simp only [Act.put, List.setIfInBounds_toArray, List.set_cons_zero, List.set_cons_succ]
                  refine zbe (i := 21) (v := ?_) (some 173) rfl rfl (by kernel_rfl) (by kernel_rfl) (by kernel_rfl) (by rfl) (fun _ _ _ h => h) ?_ (by assumption) ?_
                  rotate_left 1
                  focus (intro w hSw; (try dsimp only at hSw); go_simp; (try (with_reducible rfl)))
                  simp only [Act.put, List.setIfInBounds_toArray, List.set_cons_zero, List.set_cons_succ]
                  refine zbe (i := 22) (v := ?_) (some 174) rfl rfl (by kernel_rfl) (by kernel_rfl) (by kernel_rfl) (by rfl) (fun _ _ _ h => h) ?_ (by assumption) ?_
                  rotate_left 1
                  focus (intro w hSw; (try dsimp only at hSw); go_simp; (try (with_reducible rfl)))
                  simp only [Act.put, List.setIfInBounds_toArray, List.set_cons_zero, List.set_cons_succ]
                  refine zbe (i := 23) (v := ?_) (some 175) rfl rfl (by kernel_rfl) (by kernel_rfl) (by kernel_rfl) (by rfl) (fun _ _ _ h => h) ?_ (by assumption) ?_
                  rotate_left 1
                  focus (intro w hSw; (try dsimp only at hSw); go_simp; (try (with_reducible rfl)))
                  simp only [Act.put, List.setIfInBounds_toArray, List.set_cons_zero, List.set_cons_succ]
                  refine zbe (i := 24) (v := ?_) (some 176) rfl rfl (by kernel_rfl) (by kernel_rfl) (by kernel_rfl) (by rfl) (fun _ _ _ h => h) ?_ (by assumption) ?_
                  rotate_left 1
                  focus (intro w hSw; (try dsimp only at hSw); go_simp; (try (with_reducible rfl)))
                  simp only [Act.put, List.setIfInBounds_toArray, List.set_cons_zero, List.set_cons_succ]
                  refine zbe (i := 25) (v := ?_) (some 177) rfl rfl (by kernel_rfl) (by kernel_rfl) (by kernel_rfl) (by rfl) (fun _ _ _ h => h) ?_ (by assumption) ?_
                  rotate_left 1
                  focus (intro w hSw; (try dsimp only at hSw); go_simp; (try (with_reducible rfl)))
                  simp only [Act.put, List.setIfInBounds_toArray, List.set_cons_zero, List.set_cons_succ]
                  refine zbe (i := 26) (v := ?_) (some 178) rfl rfl (by kernel_rfl) (by kernel_rfl) (by kernel_rfl) (by rfl) (fun _ _ _ h => h) ?_ (by assumption) ?_
                  rotate_left 1
                  focus (intro w hSw; (try dsimp only at hSw); go_simp; (try (with_reducible rfl)))
                  simp only [Act.put, List.setIfInBounds_toArray, List.set_cons_zero, List.set_cons_succ]
                  refine zbe (i := 27) (v := ?_) (some 179) rfl rfl (by kernel_rfl) (by kernel_rfl) (by kernel_rfl) (by rfl) (fun _ _ _ h => h) ?_ (by assumption) ?_
                  rotate_left 1
                  focus (intro w hSw; (try dsimp only at hSw); go_simp; (try (with_reducible rfl)))
                  simp only [Act.put, List.setIfInBounds_toArray, List.set_cons_zero, List.set_cons_succ]
                  refine wpAnyH_ready (rs := [28]) (by kernel_rfl) (by simp) ?_
                  refine AllReadyH.cons rfl (fun K hK => ?_) AllReadyH.nil
                  go_simp
                  go_at_call 27
                  (with_reducible refine Calls.mono (D4.out _ (by (repeat (first | exact Below.refl _ _ | assumption | refine zae ?_ _ | refine zag ?_ | refine zaf ?_ ?_ _ _ _ | refine zaj ?_ (by omega) | refine zaa ?_ (by assumption))); (first | done | fail))) ?_)
                  rintro e w4 ⟨rfl, hb4⟩
                  go_wp2_with fail
                  refine hK.out _ _ (HS.out _ (by (repeat (first | exact Below.refl _ _ | assumption | refine zae ?_ _ | refine zag ?_ | refine zaf ?_ ?_ _ _ _ | refine zaj ?_ (by omega) | refine zaa ?_ (by assumption))); (first | done | fail))) (fun hHeld => ?_)
                  clear hK K
                  refine zbe (i := 29) (v := ?_) (some 181) rfl rfl (by kernel_rfl) (by kernel_rfl) (by kernel_rfl) (by rfl) (fun _ _ _ h => h) ?_ (by assumption) ?_
                  rotate_left 1
                  focus (intro w hSw; (try dsimp only at hSw); go_simp; (try (with_reducible rfl)))
                  simp only [Act.put, List.setIfInBounds_toArray, List.set_cons_zero, List.set_cons_succ]
                  refine zbe (i := 30) (v := ?_) (some 182) rfl rfl (by kernel_rfl) (by kernel_rfl) (by kernel_rfl) (by rfl) (fun _ _ _ h => h) ?_ (by assumption) ?_
                  rotate_left 1
                  focus (intro w hSw; (try dsimp only at hSw); go_simp; (try (with_reducible rfl)))
                  simp only [Act.put, List.setIfInBounds_toArray, List.set_cons_zero, List.set_cons_succ]
                  refine zbe (i := 31) (v := ?_) (some 183) rfl rfl (by kernel_rfl) (by kernel_rfl) (by kernel_rfl) (by rfl) (fun _ _ _ h => h) ?_ (by assumption) ?_
                  rotate_left 1
                  focus (intro w hSw; (try dsimp only at hSw); go_simp; (try (with_reducible rfl)))
                  simp only [Act.put, List.setIfInBounds_toArray, List.set_cons_zero, List.set_cons_succ]
                  refine wpAnyH_done (by kernel_rfl) ?_ _
                  refine NoPanic.normal ?_
                  go_wp2_with fail
                  go_roundw
                  case rel => exact ⟨k + 1, Hlk.out, by go_num, zaa HWk.out (by (repeat (first | exact Below.refl _ _ | assumption | refine zae ?_ _ | refine zag ?_ | refine zaf ?_ ?_ _ _ _ | refine zaj ?_ (by omega) | refine zaa ?_ (by assumption))); (first | done | fail))⟩
                  case measure => have := Hlk.out; simp [intOf]; omega
              · obtain rfl : N = k := by omega
                have hkk : ¬ N < N := by omega
                clear hbk
                go_wp2_with fail
                go_roundw
                case rel => exact ⟨i + 1, Hlt.out, by go_num, zaa HW.out HWk.out⟩
                case measure => have := Hlt.out; simp [intOf]; omega
        · obtain rfl : np = i := by omega
          have hnn : ¬ np < np := by omega
          clear hbw
          go_wp2_with fail
          have MBo := Lib.hid (IsM.stb.next MB.out HW.out)
          have KQo := Lib.hid (IsM.stb.next KQ.out HW.out)
          have PVo := Lib.hid ((IsS.stb IsVal.stb).to PV.out (zax HW.out))
          have BBo := Lib.hid (zaa BB.out HW.out)
          clear MB KQ PV BB F hnn
          go_loopw [18] (fun ii wr => ∃ i : Nat, i ≤ nk ∧ ii = .int .i64 (i : Int) ∧ Below wo.heap.size wo wr) (fun ii _ => nk - (intOf ii).toNat)
          case atStart => exact ⟨0, Nat.zero_le _, rfl, Below.refl _ _⟩
          case round =>
            obtain ⟨wi, rfl⟩ : ∃ x, x = wr := ⟨_, rfl⟩
            obtain ⟨i, hi, rfl, hbi⟩ := hrel
            have HWi := Lib.hid hbi
            rcases Nat.lt_or_ge i nk with hlt | hge
            · have Hlt := Lib.hid hlt
              have MBi := Lib.hid (IsM.stb.next MBo.out hbi)
              have Fi := Lib.hid (IsM.stb.next Fo.out hbi)
              obtain ⟨x, hx⟩ : ∃ x, (kerQ s MM MM)[i]? = some x := ⟨_, List.getElem?_eq_getElem (by rw [← Hnk.out]; exact hlt)⟩
              have hmem := List.mem_of_getElem? hx
              have hxl : x.length = MM := by
                obtain ⟨f, _, _, e⟩ := kerQ_mem MM x hmem
                rw [e, kerTo_len]
              have hxs : ∀ q ∈ x, Sz q 13 := by
                have h := ker_sz (zdm HDb.out hN5) hM5
                rw [← HS.out] at h
                exact h x hmem
              have hfs : ∀ r ∈ zcu s MM N, ∀ q ∈ r, Sz q 13 := by
                have h := form_sz (k := N) (zdm HDb.out hN5) hM5
                rw [← HS.out] at h
                exact h
              have hbs : ∀ r ∈ b, ∀ q ∈ r, Sz q 13 := fun r hr q hq => (HDb.out.sz hN5 r hr q hq).le (by omega)
              have hap := apply_ker HE.out HDb.out.len HDb.out.row hmem
              have haf := apply_form (k := N) HE.out hmem
              have hkr : (rawM (kerQ s MM MM))[i]? = some (rawV x) := by rw [rawM, List.getElem?_map, hx]; rfl
              obtain ⟨bK, oK, Pk, kk, eKA, hSbK, elk, ek⟩ := zcj (IsM.stb.next KQo.out hbi) hkr
              subst eKA
              rw [zbh, hxl] at elk ek
              have Elk := Lib.hid elk
              have Ek := Lib.hid ek
              have Hxl := Lib.hid hxl
              have Hxs := Lib.hid hxs
              have Hfs := Lib.hid hfs
              have Hbs := Lib.hid hbs
              have Hap := Lib.hid hap
              have Haf := Lib.hid haf
              have hi0 : (0 : Int) ≤ (i : Int) := by omega
              have hi9 : (i : Int) < (nk : Int) := by omega
              clear hx hmem hxl hxs hfs hbs hap haf hkr elk hSbK hbi hlt
              go_wp2_with fail
              refine (apply_d MBi.out Elk.out (Bru.next HB.out (zaa BBo.out HWi.out)) HDb.out.len HDb.out.row hN1 hN5 hM5 Hxl.out Hbs.out Hxs.out).mono ?_
              rw [Hap.out]
              rintro e w5 ⟨⟨vx, rfl, hvx⟩, hb5⟩
              have HW5 := Lib.hid (zaa HWi.out hb5)
              have VX := Lib.hid hvx
              obtain ⟨Ax, cx, rfl, _⟩ := zcb hvx
              rw [zbh, List.length_replicate] at VX ⊢
              have ek5 := zab hb5 Ek.out
              have F5 := Lib.hid (IsM.stb.next Fi.out hb5)
              have Elk5 := Lib.hid (IsV.stb.next Elk.out hb5)
              clear hb5 hvx ek
              go_wp2_with fail
              refine (apply_d F5.out Elk5.out (Bru.next HB.out (zaa BBo.out HW5.out)) (formTo_len _ _ _) (formTo_row) hN1 hN5 hM5 Hxl.out Hfs.out Hxs.out).mono ?_
              rw [Haf.out]
              rintro e w6 ⟨⟨vy, rfl, hvy⟩, hb6⟩
              have HW6 := Lib.hid (zaa HW5.out hb6)
              have VX6 := Lib.hid (IsV.stb.next VX.out hb6)
              have VY := Lib.hid hvy
              obtain ⟨Ay, cy, rfl, _⟩ := zcb hvy
              rw [zbh, List.length_replicate] at VY ⊢
              clear hb6 hvy ek5
              go_wp2_with fail
              refine (zero_l VX6.out rfl).mono ?_
              rintro e wz ⟨rfl, hwz⟩
              obtain rfl : w6 = wz := hwz.symm
              go_wp2_with fail
              refine (zero_l VY.out rfl).mono ?_
              rintro e wz ⟨rfl, hwz⟩
              obtain rfl : w6 = wz := hwz.symm
              go_wp2_with fail
              go_roundw
              case rel => exact ⟨i + 1, Hlt.out, by go_num, HW6.out⟩
              case measure => have := Hlt.out; simp [intOf]; omega
            · obtain rfl : nk = i := by omega
              have hnn : ¬ nk < nk := by omega
              clear hbi
              go_wp2_with fail
              have MB2 := Lib.hid (IsM.stb.next MBo.out HWi.out)
              have F2 := Lib.hid (IsM.stb.next Fo.out HWi.out)
              have PV2 := Lib.hid ((IsS.stb IsVal.stb).to PVo.out (zax HWi.out))
              have BB2 := Lib.hid (zaa BBo.out HWi.out)
              obtain ⟨w2b, hw2b⟩ : ∃ x, x = wi := ⟨_, rfl⟩
              subst hw2b
              clear MBo KQo PVo BBo Fo HW HWi hnn
              go_loopw [23] (fun ii wr => ∃ i : Nat, i ≤ N ∧ ii = .int .i64 (i : Int) ∧ Below w2b.heap.size w2b wr) (fun ii _ => N - (intOf ii).toNat)
              case atStart => exact ⟨0, Nat.zero_le _, rfl, Below.refl _ _⟩
              case round =>
                obtain ⟨wi, rfl⟩ : ∃ x, x = wr := ⟨_, rfl⟩
                obtain ⟨i, hi, rfl, hbi⟩ := hrel
                have HWi := Lib.hid hbi
                rcases Nat.lt_or_ge i N with hlt | hge
                · have Hlt := Lib.hid hlt
                  have MBi := Lib.hid (IsM.stb.next MB2.out hbi)
                  obtain ⟨q, hq⟩ : ∃ q, b[i]? = some q := ⟨_, List.getElem?_eq_getElem (by rw [HDb.out.len]; exact hlt)⟩
                  have hql : q.length = MM := HDb.out.row q (List.mem_of_getElem? hq)
                  have hqs : ∀ x ∈ q, Sz x 1 := HDb.out.sz hN5 q (List.mem_of_getElem? hq)
                  have hbr : (rawM b)[i]? = some (rawV q) := by rw [rawM, List.getElem?_map, hq]; rfl
                  obtain ⟨bB, oB, Pr, kr, eAB, _, elr, er⟩ := zcj MBi.out hbr
                  subst eAB
                  rw [zbh, hql] at elr er
                  have ELR := Lib.hid elr
                  have ER := Lib.hid er
                  have Hq := Lib.hid hq
                  have Hql := Lib.hid hql
                  have Hqs := Lib.hid hqs
                  have hi0 : (0 : Int) ≤ (i : Int) := by omega
                  have hi9 : (i : Int) < (N : Int) := by omega
                  clear hq hql hqs hbr elr hbi hlt
                  go_wp2_with fail
                  refine (own_v0 ELR.out (short_sz Hqs.out) (by rw [zbh, Hql.out]; omega)).mono ?_
                  rintro e w5 ⟨⟨v5, S5, rfl, hown, hS5⟩, hb5⟩
                  obtain ⟨g, c5, cur, es, h5, hg5, hcur5, _, _, _, _, _, _, _⟩ := hown.shape (fun e => by have h := congrArg List.length e; rw [zbh, Hql.out] at h; simp at h; omega)
                  rw [zbh, Hql.out] at h5
                  subst h5
                  have HB5 := Lib.hid hb5
                  have O5 : Hid (OwnS 3 50 IsR w5 wi.heap.size S5 (.slice (some ⟨g, 0, none⟩) MM c5) (rawV (zdg q s MM 0 0))) := by rw [Hid, restTo_start Hql.out]; exact hown
                  have HS5 := Lib.hid hS5
                  clear hown hS5 hb5 hcur5 hg5 er
                  go_wp2_with fail
                  go_loopw [25] (fun ii wr => ∃ (k : Nat) (S : Nat → Prop), k ≤ np ∧ ii = .int .i64 (k : Int) ∧ Below wi.heap.size wi wr ∧ Hid (OwnS 3 50 IsR wr wi.heap.size S (.slice (some ⟨g, 0, none⟩) MM c5) (rawV (zdg q s MM k 0))) ∧ Hid (∀ b, S b → wi.heap.size ≤ b)) (fun ii _ => np - (intOf ii).toNat)
                  case atStart => exact ⟨0, S5, Nat.zero_le _, rfl, HB5.out, O5.out, HS5.out⟩
                  case round =>
                    obtain ⟨wk, rfl⟩ : ∃ x, x = wr := ⟨_, rfl⟩
                    obtain ⟨k, S, hk, rfl, hbk, hown, hS⟩ := hrel
                    have HWk := Lib.hid hbk
                    have Own := Lib.hid hown.out
                    have HSS := Lib.hid hS.out
                    clear hown hS
                    rcases Nat.lt_or_ge k np with hlt | hge
                    · obtain ⟨cc, hcc⟩ : ∃ cc, s.piv[k]? = some cc := ⟨_, List.getElem?_eq_getElem (by rw [← Hnp.out]; exact hlt)⟩
                      have hgd : s.piv.getD k 0 = cc := by rw [List.getD_eq_getElem?_getD, hcc]; rfl
                      have hip : k < s.piv.length := by rw [← Hnp.out]; exact hlt
                      have hcm : cc < MM := by rw [← hgd]; exact HE.out.lt k hip
                      have hpv := (IsS.stb IsVal.stb).to PV2.out (zax (zaa HWi.out hbk))
                      obtain ⟨bp, op, ev, eAP, _, hRe, _, hcell⟩ := IsS.get hpv (by omega) (j := k) (x := .int .i64 (cc : Int)) (by rw [List.getElem?_map, hcc]; rfl)
                      subst eAP
                      have hRe : ev = .int .i64 (cc : Int) := hRe
                      subst hRe
                      have p0 := hcell 0 _ rfl
                      rw [Nat.mul_one, Nat.add_zero] at p0
                      obtain ⟨x, hx⟩ : ∃ x, q[cc]? = some x := ⟨_, List.getElem?_eq_getElem (by rw [Hql.out]; exact hcm)⟩
                      have hxd : q.getD cc 0 = x := by rw [List.getD_eq_getElem?_getD, hx]; rfl
                      obtain ⟨r, hr⟩ : ∃ r, r = raw x := ⟨_, rfl⟩
                      have hrow : (rawV q)[cc]? = some r := by rw [rawV, List.getElem?_map, hx, hr]; rfl
                      obtain ⟨bR, oR, X1, X2, X3, X4, rfl, _, elx, c0, c1, c2⟩ := zcs ELR.out hrow
                      obtain ⟨nx, hnx⟩ : ∃ y, y = -x := ⟨_, rfl⟩
                      have E := Lib.hid (And.intro (zab hbk ER.out) (And.intro p0 (And.intro (zab hbk c0) (And.intro (zab hbk c1) (zab hbk c2)))))
                      have ELX := Lib.hid elx
                      have Hr := Lib.hid hr
                      have Hnx := Lib.hid hnx
                      have Hxd := Lib.hid hxd
                      have Hxs : Hid (Sz nx 1) := by rw [Hid, hnx]; exact (Hqs.out x (List.mem_of_getElem? hx)).neg
                      have Hgd := Lib.hid hgd
                      have Hcm := Lib.hid hcm
                      have Hlk := Lib.hid hlt
                      have Hgk : Hid (g < wk.heap.size ∧ wi.heap.size ≤ g) := by
                        obtain ⟨gb, gc, gcur, ges, ge, gg1, gg2, _⟩ := Own.out.shape (fun e => by have h := congrArg List.length e; rw [zbh, zeo] at h; simp at h; omega)
                        simp only [Value.slice.injEq, Option.some.injEq, Addr.mk.injEq, and_true] at ge
                        obtain ⟨rfl, _⟩ := ge
                        exact ⟨(Array.getElem?_eq_some_iff.1 gg2).1, gg1⟩
                      have HO38 : Hid (∀ b, Old wi b → b < wk.heap.size) := fun b hb => Nat.lt_of_lt_of_le hb hbk.size
                      have hk0 : (0 : Int) ≤ (k : Int) := by omega
                      have hk9 : (k : Int) < (np : Int) := by omega
                      have hkN : (k : Int) < (N : Int) := by omega
                      have hc0' : (0 : Int) ≤ (cc : Int) := by omega
                      have hc9 : (cc : Int) < (MM : Int) := by omega
                      have cr := zbn
                      clear hcc hgd hip hcm hpv hcell hx hxd hr hrow elx hnx hbk hlt p0 c0 c1 c2
                      go_wp2_with fail
                      have HS : Hid (∀ W : World, Below wk.heap.size wk W → W.cell? ⟨bB, oB + i, none⟩ = some (.slice (some ⟨bR, oR, none⟩) MM kr) ∧ W.cell? ⟨bp, op + k, none⟩ = some (.int .i64 (cc : Int)) ∧ W.cell? ⟨bR, oR + cc * 3, none⟩ = some (.bool r.neg) ∧ W.cell? ⟨bR, oR + cc * 3 + 1, none⟩ = some (.slice X1 r.num.length X2) ∧ W.cell? ⟨bR, oR + cc * 3 + 2, none⟩ = some (.slice X3 r.den.length X4)) := fun W hW => ⟨zab hW E.out.1, zab hW E.out.2.1, zab hW E.out.2.2.1, zab hW E.out.2.2.2.1, zab hW E.out.2.2.2.2⟩
                      have D5 : Hid (∀ W : World, Below wk.heap.size wk W → Calls Tryd.prog 30 #[.agg #[.bool r.neg, .slice X1 r.num.length X2, .slice X3 r.den.length X4]] W (RetS (Old wi) W nx)) := fun W hW => rneg_s (IsQ.stb.to (isR_isQ' ELX.out Hr.out) (zdo (S := Old wi) (zaa HWk.out hW) (fun b h => h))) (fun b hb => Nat.lt_of_lt_of_le hb (zaa HWk.out hW).size) Hnx.out
                      go_region_held3 (fun w' => w'.cell? ⟨bB, oB + i, none⟩ = some (.slice (some ⟨bR, oR, none⟩) MM kr) ∧ w'.cell? ⟨bp, op + k, none⟩ = some (.int .i64 (cc : Int)) ∧ w'.cell? ⟨bR, oR + cc * 3, none⟩ = some (.bool r.neg) ∧ w'.cell? ⟨bR, oR + cc * 3 + 1, none⟩ = some (.slice X1 r.num.length X2) ∧ w'.cell? ⟨bR, oR + cc * 3 + 2, none⟩ = some (.slice X3 r.den.length X4))
                        (exact HS.out _ (by (repeat (first | exact Below.refl _ _ | assumption | refine zae ?_ _ | refine zag ?_ | refine zaf ?_ ?_ _ _ _ | refine zaj ?_ (by omega) | refine zaa ?_ (by assumption))); (first | done | fail)))
                        (first
                          | (go_at_call 30; (with_reducible refine Calls.mono (D5.out _ (by (repeat (first | exact Below.refl _ _ | assumption | refine zae ?_ _ | refine zag ?_ | refine zaf ?_ ?_ _ _ _ | refine zaj ?_ (by omega) | refine zaa ?_ (by assumption))); (first | done | fail))) ?_); rintro e w5 ⟨⟨v5, rfl, hv5⟩, hb5⟩; obtain ⟨s5, P5, k5, O5', l5, rfl, _, _, _⟩ := zam hv5; (first | (have rB : Row w5 wk.heap.size 50 [.bool false, .slice none 0 0, .slice none 0 0] := (Row.next (heap_alloc_new (World.drew wk) zRat) (by (repeat (first | exact Below.refl _ _ | assumption | refine zae ?_ _ | refine zag ?_ | refine zaf ?_ ?_ _ _ _ | refine zaj ?_ (by omega) | refine zaa ?_ (by assumption))); (first | done | fail)) : Row w5 _ _ _); obtain ⟨gc0, gc1, gc2⟩ := zad rB; obtain ⟨gf0, gf1, gf2⟩ := zaq rB) | skip)))
                      all_goals first
                        | (have hF := fin3S (wB := wk) (X := (World.drew wk)) (g := wk.heap.size) hv5 HO38.out (by (repeat (first | exact Below.refl _ _ | assumption | refine zae ?_ _ | refine zag ?_ | refine zaf ?_ ?_ _ _ _ | refine zaj ?_ (by omega) | refine zaa ?_ (by assumption))); (first | done | fail)) (by (repeat (first | exact Below.refl _ _ | assumption | refine zae ?_ _ | refine zag ?_ | refine zaf ?_ ?_ _ _ _ | refine zaj ?_ (by omega) | refine zaa ?_ (by assumption))); (first | done | fail)) (by (repeat (first | exact Below.refl _ _ | assumption | refine zae ?_ _ | refine zag ?_ | refine zaf ?_ ?_ _ _ _ | refine zaj ?_ (by omega) | refine zaa ?_ (by assumption))); (first | done | fail)) rfl; obtain ⟨wE, hwE, hbE, rE, qE, zE⟩ := hF; obtain ⟨gv, hgv⟩ : ∃ x, x = wk.heap.size := ⟨_, rfl⟩; rw [← hgv] at hwE rE ⊢; have ZE : Hid (wk.heap.size ≤ gv) := (by rw [hgv]; exact zE); simp only [hwE])
                        | (have hF := fin3SL (wB := wk) hv5 HO38.out (by (repeat (first | exact Below.refl _ _ | assumption | refine zae ?_ _ | refine zag ?_ | refine zaf ?_ ?_ _ _ _ | refine zaj ?_ (by omega) | refine zaa ?_ (by assumption))); (first | done | fail)); obtain ⟨wE, hwE, hbE, rE, qE, zE⟩ := hF; obtain ⟨gv, hgv⟩ : ∃ x, x = w5.heap.size := ⟨_, rfl⟩; rw [← hgv] at rE ⊢; have ZE : Hid (wk.heap.size ≤ gv) := (by rw [hgv]; exact zE); rw [hwE])
                      all_goals
                        obtain ⟨z1, hz1⟩ : ∃ z, z = (lim nx.num.natAbs).length := ⟨_, rfl⟩
                        obtain ⟨z2, hz2⟩ : ∃ z, z = (lim nx.den).length := ⟨_, rfl⟩
                        clear hwE
                        rw [← hz1, ← hz2] at rE qE ⊢
                        have RE := Lib.hid rE
                        have QW := Lib.hid (IsQ.stb.to qE (same_back (zaa HWk.out hbE)))
                        have HBE := Lib.hid hbE
                        clear rE qE hbE zE hgv hz1 hz2 hv5 hb5 HS D5
                        go_wp2_with fail
                        go_loopw [27] (fun jj wr => ∃ (j : Nat) (S7 : Nat → Prop), j ≤ MM ∧ jj = .int .i64 (j : Int) ∧ Below wi.heap.size wi wr ∧ Hid (OwnS 3 50 IsR wr wi.heap.size S7 (.slice (some ⟨g, 0, none⟩) MM c5) (rawV (zdg q s MM k j))) ∧ Hid (∀ b, S7 b → wi.heap.size ≤ b) ∧ Hid (Row wr gv 50 [.bool s5, .slice P5 z1 k5, .slice O5' z2 l5])) (fun jj _ => MM - (intOf jj).toNat)
                        case atStart => exact ⟨0, S, Nat.zero_le _, rfl, zaa HWk.out HBE.out, OwnS.step IsR.stb (T := S) Own.out HBE.out (fun b h => h) (fun b h => .inl h), HSS.out, RE.out⟩
                        case round =>
                          obtain ⟨wj, rfl⟩ : ∃ x, x = wr := ⟨_, rfl⟩
                          obtain ⟨j, S7, hj, rfl, hbj, hown, hS7, hR7⟩ := hrel
                          have HWj := Lib.hid hbj
                          have OwnJ := Lib.hid hown.out
                          have HS7 := Lib.hid hS7.out
                          have RJ := Lib.hid hR7.out
                          clear hown hS7 hR7
                          rcases Nat.lt_or_ge j MM with hlt | hge
                          · have Hlj := Lib.hid hlt
                            obtain ⟨y, hy⟩ : ∃ y, y = zfe q s k j := ⟨_, rfl⟩
                            obtain ⟨ry, hry⟩ : ∃ r, r = raw y := ⟨_, rfl⟩
                            have hyr : (rawV (zdg q s MM k j))[j]? = some ry := by rw [rawV, List.getElem?_map, restTo_at q s hlt, hry, hy]; rfl
                            have hT := OwnS.isS IsR.stb (T := Old wj) OwnJ.out (fun b hb => by obtain ⟨_, _, _, _, h4⟩ := OwnJ.out; exact (h4 b hb).1) (fun b h1 h2 => h2)
                            have hsl : (rawV (zdg q s MM k j)).length = MM := by rw [zbh, zeo]
                            obtain ⟨b1, o1, Y1, Y2, Y3, Y4, e1, _, ely, d0, d1, d2⟩ := zcs hT hyr
                            cases e1
                            rw [Nat.zero_add] at d0 d1 d2
                            have hfr : (rawM (zcu s MM N))[k]? = some (rawV (rowQ s.A s.piv.length s.d k 0 MM)) := by rw [rawM, List.getElem?_map, zfr (by have := Hlk.out; omega)]; rfl
                            obtain ⟨b2, o2, Pf, kf, e2, _, elf, ef⟩ := zcj (IsM.stb.next F2.out (zaa HWi.out hbj)) hfr
                            cases e2
                            rw [zbh, zdi] at elf ef
                            obtain ⟨z, hz⟩ : ∃ z, z = atQ s.A s.piv.length s.d k j := ⟨_, rfl⟩
                            obtain ⟨rz, hrz⟩ : ∃ r, r = raw z := ⟨_, rfl⟩
                            have hzr : (rawV (rowQ s.A s.piv.length s.d k 0 MM))[j]? = some rz := by rw [rawV, List.getElem?_map, rowQ_get hlt, Nat.zero_add, hrz, hz]; rfl
                            obtain ⟨bf, of_, Z1, Z2, Z3, Z4, rfl, _, elz, f0, f1, f2⟩ := zcs elf hzr
                            obtain ⟨h0, h1, h2⟩ := zad RJ.out
                            have hat : ∀ t, Sz (atQ s.A s.piv.length s.d t j) 13 := fun t => by
                              have h := at_run5 (i := t) (j := j) (zdm HDb.out hN5) (Nat.le_refl MM) hM5 hlt
                              rw [← HS.out] at h
                              exact h
                            have hk5 : k ≤ 5 := by omega
                            obtain ⟨t, ht⟩ : ∃ t, t = nx * z := ⟨_, rfl⟩
                            obtain ⟨y2, hy2⟩ : ∃ u, u = y + t := ⟨_, rfl⟩
                            have HnextY : Hid (y2 = zfe q s (k + 1) j) := by rw [Hid, restAt_next, Hgd.out, Hxd.out, ← Hnx.out, ← hz, ← hy, hy2, ht]
                            have szT : Sz t 14 := by rw [ht, hz]; exact Hxs.out.mul (hat k)
                            have SzT : Hid (Sz t 100000) := szT.le (by omega)
                            have SzN : Hid (Sz nx 100000) := Hxs.out.le (by omega)
                            have SzZ : Hid (Sz z 100000) := by rw [Hid, hz]; exact (hat k).le (by omega)
                            have SzY : Hid (Sz y 100000) := by rw [Hid, hy]; exact (restAt_sz Hqs.out hat k).le (by omega)
                            have QY := Lib.hid (isR_isQ' ely hry)
                            have QZ := Lib.hid (isR_isQ' elz hrz)
                            have QN := Lib.hid (IsQ.stb.to QW.out (zax HWj.out))
                            have E := Lib.hid (And.intro ef (And.intro f0 (And.intro f1 (And.intro f2 (And.intro d0 (And.intro d1 (And.intro d2 (And.intro h0 (And.intro h1 h2)))))))))
                            have Ht := Lib.hid ht
                            have Hy2 := Lib.hid hy2
                            have Hsl := Lib.hid hsl
                            have HFz : Hid (∀ W : World, Below wj.heap.size wj W → ∀ o, W.frozen? ⟨g, o, none⟩ = false) := by
                              obtain ⟨gb, gc, gcur, ges, ge, gg1, gg2, _⟩ := OwnJ.out.shape (fun e => by rw [e] at hsl; simp at hsl; omega)
                              simp only [Value.slice.injEq, Option.some.injEq, Addr.mk.injEq, and_true] at ge
                              obtain ⟨rfl, _⟩ := ge
                              intro W hW o
                              simp [World.frozen?, (hW.block g (Array.getElem?_eq_some_iff.1 gg2).1).trans gg2]
                            have hj0 : (0 : Int) ≤ (j : Int) := by omega
                            have hj9 : (j : Int) < (MM : Int) := by omega
                            have cr := zbn
                            clear hy hry hyr hT hsl ely d0 d1 d2 hfr elf ef hz hrz hzr elz f0 f1 f2 h0 h1 h2 hat ht hy2 szT hbj hlt
                            go_wp2_with fail
                            refine zen fun ops hops => ?_
                            have oq0 := zar (j := 0) hops rfl
                            have oq1 := zar (j := 1) hops rfl
                            have oq2 := zar (j := 2) hops rfl
                            have oq3 := zar (j := 3) hops rfl
                            have oq4 := zar (j := 4) hops rfl
                            have oq5 := zar (j := 5) hops rfl
                            have oq6 := zar (j := 6) hops rfl
                            have oq7 := zar (j := 7) hops rfl
                            have oq8 := zar (j := 8) hops rfl
                            have oq9 := zar (j := 9) hops rfl
                            have oq10 := zar (j := 10) hops rfl
                            have oq11 := zar (j := 11) hops rfl
                            have oq12 := zar (j := 12) hops rfl
                            have oq13 := zar (j := 13) hops rfl
                            have oq14 := zar (j := 14) hops rfl
                            have oq15 := zar (j := 15) hops rfl
                            have oq16 := zar (j := 16) hops rfl
                            have oq17 := zar (j := 17) hops rfl
                            have fr := fun t h => slotN_abs (n := 17) hops t h
                            refine wp_region_growS 17 (Kern42 (.slice (some ⟨g, 0, none⟩) MM c5) (.slice (some ⟨bF, oF, none⟩) N cF) (.slice (some ⟨bf, of_, none⟩) MM kf) (.agg #[.bool ry.neg, .slice Y1 ry.num.length Y2, .slice Y3 ry.den.length Y4]) (.agg #[.bool s5, .slice P5 z1 k5, .slice O5' z2 l5]) (.agg #[.bool rz.neg, .slice Z1 rz.num.length Z2, .slice Z3 rz.den.length Z4]) j k g bF oF bf of_ wj.heap.size t y2) (by kernel_rfl) (kern42_stb (.slice (some ⟨g, 0, none⟩) MM c5) (.slice (some ⟨bF, oF, none⟩) N cF) (.slice (some ⟨bf, of_, none⟩) MM kf) (.agg #[.bool ry.neg, .slice Y1 ry.num.length Y2, .slice Y3 ry.den.length Y4]) (.agg #[.bool s5, .slice P5 z1 k5, .slice O5' z2 l5]) (.agg #[.bool rz.neg, .slice Z1 rz.num.length Z2, .slice Z3 rz.den.length Z4]) j k g bF oF bf of_ wj.heap.size t y2) (by rw [hops]; kernel_rfl) ?step ?fin
                            case step =>
                              intro i o hin hi a W hsz hdf hbw hfree hdep
                              obtain ⟨T, df⟩ := a
                              replace hsz : T.size = 280 := hsz
                              obtain rfl : df = [] := hdf
                              match i, hin, hi with
                              | 0, _, hi =>
                                obtain rfl := Option.some.inj (oq0.symm.trans hi)
                                have e24 : T[24]? = some (.slice (some ⟨g, 0, none⟩) MM c5) := hfree 24 (fr 24 (by kernel_rfl))
                                refine zah rfl ?_
                                clear hdep hfree hsz hops fr oq0 oq1 oq2 oq3 oq4 oq5 oq6 oq7 oq8 oq9 oq10 oq11 oq12 oq13 oq14 oq15 oq16 oq17
                                refine zao fun K hK => ?_
                                go_simp
                                exact hK (.slice (some ⟨g, 0, none⟩) MM c5) _ (Below.refl _ _) (rfl)
                              | 1, _, hi =>
                                obtain rfl := Option.some.inj (oq1.symm.trans hi)
                                have e27 : T[27]? = some (.int .i64 (j : Int)) := hfree 27 (fr 27 (by kernel_rfl))
                                refine zah rfl ?_
                                clear hdep hfree hsz hops fr oq0 oq1 oq2 oq3 oq4 oq5 oq6 oq7 oq8 oq9 oq10 oq11 oq12 oq13 oq14 oq15 oq16 oq17
                                refine zao fun K hK => ?_
                                go_simp
                                exact hK (.int .i64 (j : Int)) _ (Below.refl _ _) (rfl)
                              | 2, _, hi =>
                                obtain rfl := Option.some.inj (oq2.symm.trans hi)
                                have e24 : T[24]? = some (.slice (some ⟨g, 0, none⟩) MM c5) := hfree 24 (fr 24 (by kernel_rfl))
                                refine zah rfl ?_
                                clear hdep hfree hsz hops fr oq0 oq1 oq2 oq3 oq4 oq5 oq6 oq7 oq8 oq9 oq10 oq11 oq12 oq13 oq14 oq15 oq16 oq17
                                refine zao fun K hK => ?_
                                go_simp
                                exact hK (.slice (some ⟨g, 0, none⟩) MM c5) _ (Below.refl _ _) (rfl)
                              | 3, _, hi =>
                                obtain rfl := Option.some.inj (oq3.symm.trans hi)
                                have e27 : T[27]? = some (.int .i64 (j : Int)) := hfree 27 (fr 27 (by kernel_rfl))
                                refine zah rfl ?_
                                clear hdep hfree hsz hops fr oq0 oq1 oq2 oq3 oq4 oq5 oq6 oq7 oq8 oq9 oq10 oq11 oq12 oq13 oq14 oq15 oq16 oq17
                                refine zao fun K hK => ?_
                                go_simp
                                exact hK (.int .i64 (j : Int)) _ (Below.refl _ _) (rfl)
                              | 4, _, hi =>
                                obtain rfl := Option.some.inj (oq4.symm.trans hi)
                                have e260 : T[260]? = some (.slice (some ⟨g, 0, none⟩) MM c5) := zal (by omega) (hdep 2 _ 260 (odt (by kernel_rfl)) oq2 rfl)
                                have e261 : T[261]? = some (.int .i64 (j : Int)) := zal (by omega) (hdep 3 _ 261 (odt (by kernel_rfl)) oq3 rfl)
                                refine zah rfl ?_
                                clear hdep hfree hsz hops fr oq0 oq1 oq2 oq3 oq4 oq5 oq6 oq7 oq8 oq9 oq10 oq11 oq12 oq13 oq14 oq15 oq16 oq17
                                refine zao fun K hK => ?_
                                go_simp
                                exact hK (.pointer (some ⟨g, j * 3, none⟩)) _ (Below.refl _ _) (rfl)
                              | 5, _, hi =>
                                obtain rfl := Option.some.inj (oq5.symm.trans hi)
                                have e262 : T[262]? = some (.pointer (some ⟨g, j * 3, none⟩)) := zal (by omega) (hdep 4 _ 262 (odt (by kernel_rfl)) oq4 rfl)
                                refine zah rfl ?_
                                clear hdep hfree hsz hops fr oq0 oq1 oq2 oq3 oq4 oq5 oq6 oq7 oq8 oq9 oq10 oq11 oq12 oq13 oq14 oq15 oq16 oq17
                                have c0 := zab hbw E.out.2.2.2.2.1
                                have c1 := zab hbw E.out.2.2.2.2.2.1
                                have c2 := zab hbw E.out.2.2.2.2.2.2.1
                                refine zao fun K hK => ?_
                                go_simp
                                exact hK (.agg #[.bool ry.neg, .slice Y1 ry.num.length Y2, .slice Y3 ry.den.length Y4]) _ (Below.refl _ _) (rfl)
                              | 6, _, hi =>
                                obtain rfl := Option.some.inj (oq6.symm.trans hi)
                                have e26 : T[26]? = some (.pointer (some ⟨gv, 0, none⟩)) := hfree 26 (fr 26 (by kernel_rfl))
                                refine zah rfl ?_
                                clear hdep hfree hsz hops fr oq0 oq1 oq2 oq3 oq4 oq5 oq6 oq7 oq8 oq9 oq10 oq11 oq12 oq13 oq14 oq15 oq16 oq17
                                have c0 := zab hbw E.out.2.2.2.2.2.2.2.1
                                have c1 := zab hbw E.out.2.2.2.2.2.2.2.2.1
                                have c2 := zab hbw E.out.2.2.2.2.2.2.2.2.2
                                refine zao fun K hK => ?_
                                go_simp
                                exact hK (.agg #[.bool s5, .slice P5 z1 k5, .slice O5' z2 l5]) _ (Below.refl _ _) (rfl)
                              | 7, _, hi =>
                                obtain rfl := Option.some.inj (oq7.symm.trans hi)
                                have e9 : T[9]? = some (.slice (some ⟨bF, oF, none⟩) N cF) := hfree 9 (fr 9 (by kernel_rfl))
                                refine zah rfl ?_
                                clear hdep hfree hsz hops fr oq0 oq1 oq2 oq3 oq4 oq5 oq6 oq7 oq8 oq9 oq10 oq11 oq12 oq13 oq14 oq15 oq16 oq17
                                refine zao fun K hK => ?_
                                go_simp
                                exact hK (.slice (some ⟨bF, oF, none⟩) N cF) _ (Below.refl _ _) (rfl)
                              | 8, _, hi =>
                                obtain rfl := Option.some.inj (oq8.symm.trans hi)
                                have e25 : T[25]? = some (.int .i64 (k : Int)) := hfree 25 (fr 25 (by kernel_rfl))
                                refine zah rfl ?_
                                clear hdep hfree hsz hops fr oq0 oq1 oq2 oq3 oq4 oq5 oq6 oq7 oq8 oq9 oq10 oq11 oq12 oq13 oq14 oq15 oq16 oq17
                                refine zao fun K hK => ?_
                                go_simp
                                exact hK (.int .i64 (k : Int)) _ (Below.refl _ _) (rfl)
                              | 9, _, hi =>
                                obtain rfl := Option.some.inj (oq9.symm.trans hi)
                                have e265 : T[265]? = some (.slice (some ⟨bF, oF, none⟩) N cF) := zal (by omega) (hdep 7 _ 265 (odt (by kernel_rfl)) oq7 rfl)
                                have e266 : T[266]? = some (.int .i64 (k : Int)) := zal (by omega) (hdep 8 _ 266 (odt (by kernel_rfl)) oq8 rfl)
                                refine zah rfl ?_
                                clear hdep hfree hsz hops fr oq0 oq1 oq2 oq3 oq4 oq5 oq6 oq7 oq8 oq9 oq10 oq11 oq12 oq13 oq14 oq15 oq16 oq17
                                refine zao fun K hK => ?_
                                go_simp
                                exact hK (.pointer (some ⟨bF, oF + k, none⟩)) _ (Below.refl _ _) (rfl)
                              | 10, _, hi =>
                                obtain rfl := Option.some.inj (oq10.symm.trans hi)
                                have e267 : T[267]? = some (.pointer (some ⟨bF, oF + k, none⟩)) := zal (by omega) (hdep 9 _ 267 (odt (by kernel_rfl)) oq9 rfl)
                                refine zah rfl ?_
                                clear hdep hfree hsz hops fr oq0 oq1 oq2 oq3 oq4 oq5 oq6 oq7 oq8 oq9 oq10 oq11 oq12 oq13 oq14 oq15 oq16 oq17
                                have c0 := zab hbw E.out.1
                                refine zao fun K hK => ?_
                                go_simp
                                exact hK (.slice (some ⟨bf, of_, none⟩) MM kf) _ (Below.refl _ _) (rfl)
                              | 11, _, hi =>
                                obtain rfl := Option.some.inj (oq11.symm.trans hi)
                                have e27 : T[27]? = some (.int .i64 (j : Int)) := hfree 27 (fr 27 (by kernel_rfl))
                                refine zah rfl ?_
                                clear hdep hfree hsz hops fr oq0 oq1 oq2 oq3 oq4 oq5 oq6 oq7 oq8 oq9 oq10 oq11 oq12 oq13 oq14 oq15 oq16 oq17
                                refine zao fun K hK => ?_
                                go_simp
                                exact hK (.int .i64 (j : Int)) _ (Below.refl _ _) (rfl)
                              | 12, _, hi =>
                                obtain rfl := Option.some.inj (oq12.symm.trans hi)
                                have e268 : T[268]? = some (.slice (some ⟨bf, of_, none⟩) MM kf) := zal (by omega) (hdep 10 _ 268 (odt (by kernel_rfl)) oq10 rfl)
                                have e269 : T[269]? = some (.int .i64 (j : Int)) := zal (by omega) (hdep 11 _ 269 (odt (by kernel_rfl)) oq11 rfl)
                                refine zah rfl ?_
                                clear hdep hfree hsz hops fr oq0 oq1 oq2 oq3 oq4 oq5 oq6 oq7 oq8 oq9 oq10 oq11 oq12 oq13 oq14 oq15 oq16 oq17
                                refine zao fun K hK => ?_
                                go_simp
                                exact hK (.pointer (some ⟨bf, of_ + j * 3, none⟩)) _ (Below.refl _ _) (rfl)
                              | 13, _, hi =>
                                obtain rfl := Option.some.inj (oq13.symm.trans hi)
                                have e270 : T[270]? = some (.pointer (some ⟨bf, of_ + j * 3, none⟩)) := zal (by omega) (hdep 12 _ 270 (odt (by kernel_rfl)) oq12 rfl)
                                refine zah rfl ?_
                                clear hdep hfree hsz hops fr oq0 oq1 oq2 oq3 oq4 oq5 oq6 oq7 oq8 oq9 oq10 oq11 oq12 oq13 oq14 oq15 oq16 oq17
                                have c0 := zab hbw E.out.2.1
                                have c1 := zab hbw E.out.2.2.1
                                have c2 := zab hbw E.out.2.2.2.1
                                refine zao fun K hK => ?_
                                go_simp
                                exact hK (.agg #[.bool rz.neg, .slice Z1 rz.num.length Z2, .slice Z3 rz.den.length Z4]) _ (Below.refl _ _) (rfl)
                              | 14, _, hi =>
                                obtain rfl := Option.some.inj (oq14.symm.trans hi)
                                have e264 : T[264]? = some (.agg #[.bool s5, .slice P5 z1 k5, .slice O5' z2 l5]) := zal (by omega) (hdep 6 _ 264 (odt (by kernel_rfl)) oq6 rfl)
                                have e271 : T[271]? = some (.agg #[.bool rz.neg, .slice Z1 rz.num.length Z2, .slice Z3 rz.den.length Z4]) := zal (by omega) (hdep 13 _ 271 (odt (by kernel_rfl)) oq13 rfl)
                                refine zah rfl ?_
                                clear hdep hfree hsz hops fr oq0 oq1 oq2 oq3 oq4 oq5 oq6 oq7 oq8 oq9 oq10 oq11 oq12 oq13 oq14 oq15 oq16 oq17
                                refine zao fun K hK => ?_
                                go_simp
                                refine (rmulq (IsQ.stb.next QN.out hbw) (IsQ.stb.next QZ.out hbw) SzN.out SzZ.out Ht.out).mono ?_
                                rintro e w' ⟨⟨v, rfl, hv⟩, hb⟩
                                exact hK v w' hb (IsQ.stb.old hv)
                              | 15, _, hi =>
                                obtain rfl := Option.some.inj (oq15.symm.trans hi)
                                have e263 : T[263]? = some (.agg #[.bool ry.neg, .slice Y1 ry.num.length Y2, .slice Y3 ry.den.length Y4]) := zal (by omega) (hdep 5 _ 263 (odt (by kernel_rfl)) oq5 rfl)
                                have d272 : IsQ W (Old W) (T.getD 272 undef) t := hdep 14 _ 272 (odt (by kernel_rfl)) oq14 rfl
                                obtain ⟨v272, e272, g272⟩ := zbu (T := T) (t := 272) (by omega)
                                rw [g272] at d272
                                clear g272
                                refine zah rfl ?_
                                clear hdep hfree hsz hops fr oq0 oq1 oq2 oq3 oq4 oq5 oq6 oq7 oq8 oq9 oq10 oq11 oq12 oq13 oq14 oq15 oq16 oq17
                                refine zao fun K hK => ?_
                                go_simp
                                refine (raddq (IsQ.stb.next QY.out hbw) d272 SzY.out SzT.out Hy2.out).mono ?_
                                rintro e w' ⟨⟨v, rfl, hv⟩, hb⟩
                                exact hK v w' hb (IsQ.stb.le hv hbw.size)
                              | 16, _, hi =>
                                obtain rfl := Option.some.inj (oq16.symm.trans hi)
                                have e258 : T[258]? = some (.slice (some ⟨g, 0, none⟩) MM c5) := zal (by omega) (hdep 0 _ 258 (odt (by kernel_rfl)) oq0 rfl)
                                have e259 : T[259]? = some (.int .i64 (j : Int)) := zal (by omega) (hdep 1 _ 259 (odt (by kernel_rfl)) oq1 rfl)
                                refine zah rfl ?_
                                clear hdep hfree hsz hops fr oq0 oq1 oq2 oq3 oq4 oq5 oq6 oq7 oq8 oq9 oq10 oq11 oq12 oq13 oq14 oq15 oq16 oq17
                                refine zao fun K hK => ?_
                                go_simp
                                exact hK (.pointer (some ⟨g, j * 3, none⟩)) _ (Below.refl _ _) (rfl)
                              | _ + 17, hin, _ => exact absurd hin (by omega)
                            case fin =>
                              intro o ho a W hsz hdf hbw hfree hall
                              obtain rfl := Option.some.inj (oq17.symm.trans ho)
                              obtain ⟨⟨l⟩, df⟩ := a
                              obtain rfl : df = [] := hdf
                              obtain ⟨fs, hl⟩ := frame_of [258, 259, 260, 261, 262, 263, 264, 265, 266, 267, 268, 269, 270, 271, 272, 273, 274] (slotN_in (by rw [hops]; kernel_rfl)) hsz hfree
                              simp only [setAll, List.set_cons_zero, List.set_cons_succ] at hl
                              subst hl
                              have q273 : IsQ W (New wj.heap.size W) (fs 273) y2 := hall 15 _ 273 (by omega) oq15 rfl
                              have bs274 : fs 274 = .pointer (some ⟨g, j * 3, none⟩) := hall 16 _ 274 (by omega) oq16 rfl
                              clear hops fr oq0 oq1 oq2 oq3 oq4 oq5 oq6 oq7 oq8 oq9 oq10 oq11 oq12 oq13 oq14 oq15 oq16 oq17
                              clear hall hfree hsz ho
                              rw [bs274]
                              clear bs274
                              obtain ⟨t273, ht273⟩ : ∃ t, t = fs 273 := ⟨_, rfl⟩
                              rw [← ht273] at q273 ⊢
                              clear ht273
                              have hB7 := hbw
                              obtain ⟨s7, P7, k7, O7, l7, rfl, _, _, _⟩ := zam q273
                              have x0 := zab hbw E.out.2.2.2.2.1
                              have x1 := zab hbw E.out.2.2.2.2.2.1
                              have x2 := zab hbw E.out.2.2.2.2.2.2.1
                              have fz0 := HFz.out W hB7 (j * 3)
                              have fz1 := HFz.out W hB7 (j * 3 + 1)
                              have fz2 := HFz.out W hB7 (j * 3 + 2)
                              obtain ⟨w7, hw7⟩ : ∃ x, x = W := ⟨_, rfl⟩
                              rw [← hw7] at hB7 q273 x0 x1 x2 fz0 fz1 fz2 ⊢
                              clear hw7 hbw
                              refine last_k fun K hK => ?_
                              go_simp
                              refine hK _ _ ?_
                              clear hK K
                              have hE7 : IsR w7 (fun b => S7 b ∨ (wj.heap.size ≤ b ∧ b < w7.heap.size)) (.agg #[.bool s7, .slice P7 (lim y2.num.natAbs).length k7, .slice O7 (lim y2.den).length l7]) (raw y2) := IsQ.stb.to q273 (zaz fun b h => .inr h)
                              have hT7 := OwnS.step IsR.stb (T := fun b => S7 b ∨ (wj.heap.size ≤ b ∧ b < w7.heap.size)) OwnJ.out hB7 (fun b h => .inl h) (fun b h => h)
                              have OS : Hid (OwnS 3 50 IsR (putE w7 g j (.bool s7) (.slice P7 (lim y2.num.natAbs).length k7) (.slice O7 (lim y2.den).length l7)) wi.heap.size (fun b => S7 b ∨ (wj.heap.size ≤ b ∧ b < w7.heap.size)) (.slice (some ⟨g, 0, none⟩) MM c5) (rawV (zdg q s MM k (j + 1)))) := by
                                have h := OwnS.set3 IsR.stb (g := g) (cap := c5) (l := rawV (zdg q s MM k j)) (by rw [Hsl.out]; exact hT7) (j := j) (by rw [Hsl.out]; exact Hlj.out) hE7
                                rw [List.length_set, Hsl.out] at h
                                have e : rawV (zdg q s MM k (j + 1)) = (rawV (zdg q s MM k j)).set j (raw y2) := by
                                  rw [restTo_next q s Hlj.out, rawV, List.map_set, ← HnextY.out]
                                  rfl
                                rw [Hid, e]
                                exact h
                              have HB7 : Hid (Below wi.heap.size wi (putE w7 g j (.bool s7) (.slice P7 (lim y2.num.natAbs).length k7) (.slice O7 (lim y2.den).length l7))) := by
                                have h1 := zaa HWj.out hB7
                                exact h1.grown (zdy (zan _ _)) h1.size (fun x e => by cases e; exact Hgk.out.2)
                              have hne : gv ≠ g := by have h1 := Hgk.out.1; have h2 := ZE.out; omega
                              have R7 : Hid (Row (putE w7 g j (.bool s7) (.slice P7 (lim y2.num.natAbs).length k7) (.slice O7 (lim y2.den).length l7)) gv 50 [.bool s5, .slice P5 z1 k5, .slice O5' z2 l5]) := (((RJ.out.next hB7).far (p := ⟨g, j * 3, none⟩) hne (.bool s7)).far (p := ⟨g, j * 3 + 1, none⟩) hne (.slice P7 (lim y2.num.natAbs).length k7)).far (p := ⟨g, j * 3 + 2, none⟩) hne (.slice O7 (lim y2.den).length l7)
                              clear hE7 hT7 hne q273 x0 x1 x2 fz0 fz1 fz2
                              go_wp2_with fail
                              go_roundw
                              case rel => exact ⟨j + 1, _, Hlj.out, by go_num, HB7.out, OS.out, (fun b hb => by rcases hb with hb | hb; exact HS7.out b hb; exact Nat.le_trans HWj.out.size hb.1), R7.out⟩
                              case measure => have := Hlj.out; simp [intOf]; omega
                          · obtain rfl : MM = j := by omega
                            have hjj : ¬ MM < MM := by omega
                            clear hbj
                            go_wp2_with fail
                            go_roundw
                            case rel => exact ⟨k + 1, S7, Hlk.out, by go_num, HWj.out, by rw [Hid, ← restTo_line]; exact OwnJ.out, HS7.out⟩
                            case measure => have := Hlk.out; simp [intOf]; omega
                    · obtain rfl : np = k := by omega
                      have hnn : ¬ np < np := by omega
                      have hz : IsV wk (Old wk) (.slice (some ⟨g, 0, none⟩) MM c5) (rawV (List.replicate MM 0)) := by
                        have h := Own.out
                        rw [Hnp.out, restTo_end HE.out HDb.out.len HDb.out.row Hq.out] at h
                        exact OwnS.isS IsR.stb (T := Old wk) h (fun b hb => by obtain ⟨_, _, _, _, h4⟩ := h; exact (h4 b hb).1) (fun b h1 h2 => h2)
                      have Hz := Lib.hid hz
                      clear hz hbk
                      go_wp2_with fail
                      refine (zero_l Hz.out rfl).mono ?_
                      rintro e wz ⟨rfl, hwz⟩
                      obtain rfl : wk = wz := hwz.symm
                      go_wp2_with fail
                      go_roundw
                      case rel => exact ⟨i + 1, Hlt.out, by go_num, zaa HWi.out HWk.out⟩
                      case measure => have := Hlt.out; simp [intOf]; omega
                · obtain rfl : N = i := by omega
                  have hnn : ¬ N < N := by omega
                  clear hbi
                  go_wp2_with fail
                  refine (awake3_l (Bru.next HB.out (zaa BB2.out HWi.out))).mono ?_
                  rintro e wz ⟨rfl, hb⟩
                  go_wp2_with fail
                  go_ret
                  exact ⟨rfl, zaa (zaa BB2.out HWi.out) hb⟩
theorem law_vkernE {w : World} {vl : Value} {l : List Int} (hl : IsIL w (Old w) vl l) (n : Int) (hn : (Lit.int .i64 n).wf = true) (m : Int) (hm : (Lit.int .i64 m).wf = true) (hB : Bru w) :
    Calls Tryd.prog 5 #[vl, .int .i64 n, .int .i64 m] w fun e w' => e = .returned (.bool true) ∧ Below w.heap.size w w' := law_vkern hl (in64_of hn) (in64_of hm) hB
end Go.Proofs.YtblpaocignlpkaaDoor
