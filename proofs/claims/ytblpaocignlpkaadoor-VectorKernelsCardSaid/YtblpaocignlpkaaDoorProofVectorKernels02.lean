/-
  The zav of package vector's Kernel, where it succeeds.
-/
import Derived.Test.YtblpaocignlpkaaDoorVkrn17
import Derived.Test.YtblpaocignlpkaaDoorProofVectorKernels01
import Derived.Test.YtblpaocignlpkaaDoorVkrn11
import Derived.Test.YtblpaocignlpkaaDoorVkrn07
import Derived.Test.YtblpaocignlpkaaDoorVkrn09
import Derived.Test.YtblpaocignlpkaaDoorVkrn04
import Derived.Test.YtblpaocignlpkaaDoorVkrn06
import Derived.Test.YtblpaocignlpkaaDoorVkrn01
namespace Go.Proofs.YtblpaocignlpkaaDoor
open Go.RowKit
set_option linter.unusedVariables false
def zde (s : RS) (m f : Nat) : Nat → List Rat
  | 0 => (List.replicate m 0).set f 1
  | t + 1 => (zde s m f t).set (s.piv.getD t 0) (-(atQ s.A s.piv.length s.d t f))
theorem kerTo_len (s : RS) (m f t : Nat) : (zde s m f t).length = m := by
  induction t with
  | zero => rw [zde, List.length_set, List.length_replicate]
  | succ t ih => rw [zde, List.length_set, ih]
def kerQ (s : RS) (m : Nat) : Nat → List (List Rat)
  | 0 => []
  | k + 1 => if k ∈ s.piv then kerQ s m k else kerQ s m k ++ [zde s m k s.piv.length]
theorem kerQ_in {s : RS} {m k : Nat} (h : k ∈ s.piv) : kerQ s m (k + 1) = kerQ s m k := by rw [kerQ, if_pos h]
theorem kerQ_out {s : RS} {m k : Nat} (h : k ∉ s.piv) : kerQ s m (k + 1) = kerQ s m k ++ [zde s m k s.piv.length] := by rw [kerQ, if_neg h]
theorem kerQ_len (s : RS) (m k : Nat) : (kerQ s m k).length ≤ k := by
  induction k with
  | zero => exact Nat.le_refl _
  | succ k ih =>
    by_cases h : k ∈ s.piv
    · rw [kerQ_in h]; omega
    · rw [kerQ_out h, List.length_append]; simp; omega
theorem bool_info : (Tryd.prog.info? 4).map (fun i => (i.zero, i.size, i.bytes)) = some (some (.bool false), 1, 1) := by kernel_rfl
theorem boolZ : ElT Tryd.prog 111 4 (.bool false) 1 :=
  ⟨Tryd.underlying111, by obtain ⟨i, h1, h2, h3, h4⟩ := info_parts bool_info; exact ⟨i, h1, h2, h3, h4⟩, rfl⟩
def pivB (s : RS) (t c : Nat) : Value := .bool (decide (c ∈ s.piv.take t))
theorem pivB_next {s : RS} {t cc c : Nat} (h : s.piv[t]? = some cc) : updF (pivB s t) cc (.bool true) c = pivB s (t + 1) c := by
  unfold updF pivB
  rw [zeu h]
  by_cases hc : c = cc
  · rw [if_pos hc, decide_eq_true (by rw [hc]; simp)]
  · rw [if_neg hc]
    congr 1
    rw [decide_eq_decide]
    simp [hc]
set_option maxRecDepth 100000 in
set_option maxHeartbeats 8000000 in
theorem kernel_l {w : World} {v : Value} {M : List (List Rat)} {n m : Nat} {s : RS} (h : IsM w (Old w) v (rawM M)) (hB : Bru w) (hn : M.length = n) (hrow : ∀ r ∈ M, r.length = m) (hs : ∀ r ∈ M, ∀ q ∈ r, Sz q 1024) (hn1 : 1 ≤ n) (hn9 : n ≤ 40) (hm1 : 1 ≤ m) (hm9 : m ≤ 40) (hf : chkM (rawM M) = 0)
    (hbnd : ∀ k, k ≤ m → BndS n m (runK n m (zcw M) k)) (hsr : s = runK n m (zcw M) m) (hat : ∀ t f, t < s.piv.length → f < m → Sz (atQ s.A s.piv.length s.d t f) 1024) (hfit : ∀ r ∈ kerQ s m m, ∀ q ∈ r, Sz q 1024) :
    Calls Tryd.prog 26 #[v] w fun e w' => (∃ v', e = .returned (.tuple #[v', .int .i64 0]) ∧ IsM w' (Old w') v' (rawM (kerQ s m m))) ∧ Below w.heap.size w w' := by
  have HM := Lib.hid h
  have HB := Lib.hid hB
  have Hn := Lib.hid hn
  have Hs := Lib.hid hs
  have Hrow := Lib.hid hrow
  have HF := Lib.hid hf
  have Hbnd := Lib.hid hbnd
  have Hsr := Lib.hid hsr
  have Hat := Lib.hid hat
  have Hfit := Lib.hid hfit
  have hcol := Lib.hid (col_head hn hn1 hrow)
  have hcm : ∀ t cc, s.piv[t]? = some cc → cc < m := fun t cc h => by
    have h := List.mem_of_getElem? h
    rw [hsr] at h
    exact runK_piv m cc h
  have Hcm := Lib.hid hcm
  obtain ⟨A, cA, rfl, _⟩ := zdk h
  have eln : (rawM M).length = n := by rw [zda]; exact hn
  rw [eln] at HM
  rw [eln]
  clear h hB hn hs hrow hf hbnd hsr hfit eln hat hcm
  go_enter Tryd.func26, Tryd.ntmps26
  go_wp2_with fail
  refine (form_l HM.out HB.out).mono ?_
  rw [HF.out]
  rintro e w1 ⟨rfl, hb1⟩
  have HB1 := Lib.hid hb1
  clear hb1
  go_wp2_with fail
  refine (columns_l (IsM.stb.next HM.out HB1.out)).mono ?_
  rw [hcol.out]
  rintro e w1' ⟨rfl, rfl⟩
  go_wp2_with fail
  have hc := reduced_l (IsM.stb.next HM.out HB1.out) (Bru.next HB.out HB1.out) Hn.out Hrow.out Hs.out hn1 hn9 hm1 (by omega) (width := m) (Nat.le_refl m) Hbnd.out
  rw [← Hsr.out] at hc
  refine hc.mono ?_
  clear hc
  rintro e w3 ⟨⟨v3, rfl, hg⟩, hb3⟩
  obtain ⟨G, r0, c0, S', rb, cp, Pv, D, cv, cd, rfl, hGr⟩ := hg
  have HG := Lib.hid hGr
  have HW3 := Lib.hid (zaa HB1.out hb3)
  obtain ⟨np, hnp⟩ : ∃ x, x = s.piv.length := ⟨_, rfl⟩
  have Hnp := Lib.hid hnp
  have hlp : np ≤ n := by rw [hnp, Hsr.out]; exact runK_len m
  clear hb3 hGr hnp
  go_wp2_with (at_make; refine wp_makeZ boolZ rfl rfl _ _ rfl m rfl rfl rfl rfl (by omega) ?_; intro w4 hr4 hb4 hz4; have g1 : w4.cell? ⟨G, 1, none⟩ = some (.slice Pv np cv) := (by rw [Hnp.out]; exact (HG.out.row.next hb4).cell 1))
  obtain ⟨PB, hPB⟩ : ∃ b, b = w3.heap.size := ⟨_, rfl⟩
  rw [← hPB] at hr4 ⊢
  have HB4 := Lib.hid hb4
  have HPB := Lib.hid hPB
  have R4 : Hid (Row w4 PB 4 ((List.range m).map (pivB s 0))) := by
    rw [Hid, show (List.range m).map (pivB s 0) = List.replicate m (.bool false) by
      rw [show pivB s 0 = fun _ => Value.bool false from funext fun c => by unfold pivB; rw [List.take_zero, decide_eq_false (by simp)], List.map_const', List.length_range]]
    exact hr4
  clear hr4 hb4 hz4 hPB g1
  go_loopw [32, 9] (fun ii _ wr => ∃ t : Nat, t ≤ np ∧ ii = .int .i64 (t : Int) ∧ Below w3.heap.size w3 wr ∧ Hid (Row wr PB 4 ((List.range m).map (pivB s t)))) (fun ii _ _ => np - (intOf ii).toNat)
  case atStart => exact ⟨0, Nat.zero_le _, rfl, HB4.out, R4.out⟩
  case round =>
    obtain ⟨t, ht, rfl, hbt, hR⟩ := hrel
    have HBt := Lib.hid hbt
    have HR := Lib.hid hR.out
    rcases Nat.lt_or_ge t np with hlt | hge
    · obtain ⟨cc, hcc⟩ : ∃ cc, s.piv[t]? = some cc := ⟨_, List.getElem?_eq_getElem (by rw [← Hnp.out]; exact hlt)⟩
      have hcm := Hcm.out t cc hcc
      have hpv := (IsS.stb IsVal.stb).to HG.out.piv (zax hbt)
      rw [← Hnp.out] at hpv
      obtain ⟨bp, op, ev, rfl, _, hRe, _, hcell⟩ := IsS.get hpv (by omega) (j := t) (x := .int .i64 (cc : Int)) (by rw [List.getElem?_map, hcc]; rfl)
      have hRe : ev = .int .i64 (cc : Int) := hRe
      subst hRe
      have p0 := hcell 0 _ rfl
      rw [Nat.mul_one, Nat.add_zero] at p0
      have q0 : wr.cell? ⟨PB, cc, none⟩ = some (pivB s t cc) := (HR.out.cell cc).trans (by simp [hcm])
      have f0 : wr.frozen? ⟨PB, cc, none⟩ = false := HR.out.frozen cc
      have Hcc := Lib.hid hcc
      have hc0 : (0 : Int) ≤ (cc : Int) := by omega
      have hc1 : (cc : Int) < (m : Int) := by omega
      have ht0 : (0 : Int) ≤ (t : Int) := by omega
      have ht1 : (t : Int) < (np : Int) := by omega
      have Hlt := Lib.hid hlt
      have Hcm1 := Lib.hid hcm
      clear hcc hpv hcell hbt hR hlt hcm
      unfold pivB at q0
      go_wp2_with fail
      clear p0 q0 f0
      go_roundw
      case rel =>
        refine ⟨t + 1, Hlt.out, by go_num, HBt.out.setCell (p := ⟨PB, cc, none⟩) (by show w3.heap.size ≤ PB; rw [HPB.out]; exact Nat.le_refl _) _, ?_⟩
        have hset := HR.out.set_ cc (.bool true)
        rw [← range_upd _ _ Hcm1.out, List.map_congr_left (g := pivB s (t + 1)) fun c _ => pivB_next Hcc.out] at hset
        exact hset
      case measure => have := Hlt.out; simp [intOf]; omega
    · obtain rfl : t = np := by omega
      obtain ⟨w5, hw5⟩ : ∃ x, x = wr := ⟨_, rfl⟩
      have hB5 := Lib.hid HBt.out
      have hR5 := Lib.hid HR.out
      rw [← hw5] at hB5 hR5
      have Htake : Hid (s.piv.take t = s.piv) := List.take_of_length_le (by rw [← Hnp.out]; exact Nat.le_refl _)
      have htt : ¬ t < t := by omega
      clear hbt hR HR HBt R4 HB4
      go_wp2_with fail
      rw [← hw5]
      clear hw5
      go_loopw [41, 10, 11, 12, 13, 14] (fun ii ov _ _ _ _ wr => ∃ (k : Nat) (S : Nat → Prop), k ≤ m ∧ ii = .int .i64 (k : Int) ∧ Below w5.heap.size w5 wr ∧ Hid (OwnS 1 29 IsV wr w5.heap.size S ov (rawM (kerQ s m k)))) (fun ii _ _ _ _ _ _ => m - (intOf ii).toNat)
      case atStart => exact ⟨0, fun _ => False, Nat.zero_le _, rfl, Below.refl _ _, OwnS.nil (fun b hb => hb.elim)⟩
      case round =>
        obtain ⟨wo, rfl⟩ : ∃ x, x = wr := ⟨_, rfl⟩
        obtain ⟨k, S, hk, rfl, hbw, hown⟩ := hrel
        have HWo := Lib.hid hbw
        have Own := Lib.hid hown.out
        have HWw := Lib.hid (zaa HW3.out (zaa hB5.out hbw))
        have HGo := Lib.hid (zaa hB5.out hbw)
        rcases Nat.lt_or_ge k m with hkm | hkm
        · have Hkm := Lib.hid hkm
          have q0 : wo.cell? ⟨PB, k, none⟩ = some (pivB s t k) := ((hR5.out.next hbw).cell k).trans (by simp [hkm])
          unfold pivB at q0
          rw [Htake.out] at q0
          have hk0 : (0 : Int) ≤ (k : Int) := by omega
          have hk1 : (k : Int) < (m : Int) := by omega
          clear hbw hown
          by_cases hin : k ∈ s.piv
          · rw [decide_eq_true hin] at q0
            have Hin := Lib.hid hin
            clear hin
            go_wp2_with fail
            clear q0
            go_roundw
            case rel => exact ⟨k + 1, S, Hkm.out, by go_num, HWo.out, by rw [Hid, kerQ_in Hin.out]; exact Own.out⟩
            case measure => have := Hkm.out; simp [intOf]; omega
          · rw [decide_eq_false hin] at q0
            have Hin := Lib.hid hin
            clear hin
            go_wp2_with (at_make; refine zfk elR rfl _ _ rfl IsR m rfl rfl rfl (by omega) (base := wo.heap.size) (S := fun _ => False) (Nat.le_refl _) (fun b h => h.elim) ?_; intro v6 w6 hown6 hb6 hz6)
            have O6 := Lib.hid hown6
            have HB6 := Lib.hid hb6
            clear hown6 hb6 hz6 q0 hkm
            go_loopw [51, 12] (fun jj ov wr => ∃ (j : Nat) (S2 : Nat → Prop), j ≤ m ∧ jj = .int .i64 (j : Int) ∧ Below wo.heap.size wo wr ∧ Hid (OwnS 3 50 IsR wr wo.heap.size S2 ov (rawV (List.replicate j 0))) ∧ Hid (∀ b, S2 b → wo.heap.size ≤ b)) (fun jj _ _ => m - (intOf jj).toNat)
            case atStart => exact ⟨0, fun _ => False, Nat.zero_le _, rfl, HB6.out, O6.out, fun b hb => hb.elim⟩
            case round =>
              obtain ⟨j, S2, hj, rfl, hbw, hown, hS2⟩ := hrel
              have HWr := Lib.hid hbw
              rcases Nat.lt_or_ge j m with hlt | hge
              · clear hbw
                go_wp2_with fail
                refine (zero_q _).mono ?_
                rintro e w7 ⟨⟨v7, rfl, hv7⟩, hb7⟩
                obtain ⟨s7, P7, k7, O7, l7, rfl, _, _, _⟩ := zam hv7
                obtain ⟨z1, hz1⟩ : ∃ z, z = (lim (0 : Rat).num.natAbs).length := ⟨_, rfl⟩
                obtain ⟨z2, hz2⟩ : ∃ z, z = (lim (0 : Rat).den).length := ⟨_, rfl⟩
                rw [← hz1, ← hz2] at hv7 ⊢
                have Own7 := Lib.hid (OwnS.step IsR.stb (T := fun b => S2 b ∨ (wr.heap.size ≤ b ∧ b < w7.heap.size)) hown.out hb7 (fun b h => .inl h) (fun b h => h))
                have El7 : Hid (IsR w7 (fun b => S2 b ∨ (wr.heap.size ≤ b ∧ b < w7.heap.size)) (.agg #[.bool s7, .slice P7 z1 k7, .slice O7 z2 l7]) (raw 0)) := IsQ.stb.to hv7 (zaz fun b h => .inr h)
                have HW7 := Lib.hid (zaa HWr.out hb7)
                have hbase : wo.heap.size ≤ w7.heap.size := HW7.out.size
                clear hv7 hb7 hz1 hz2
                go_wp2_with (at_builtin; refine zcx elR rfl _ _ rfl IsR.stb rfl rfl rfl Own7.out El7.out rfl (by intro u hu; simp [Value.cells] at hu; rcases hu with rfl | rfl | rfl <;> rfl) (by rw [zbj, List.length_replicate]; omega) hbase ?_; intro v8 w8 hown8 hb8 hz8)
                go_roundw
                case rel =>
                  refine ⟨j + 1, fun b => S2 b ∨ (wr.heap.size ≤ b ∧ b < w7.heap.size), hlt, by go_num, HW7.out.trans hb8, ?_, fun b hb => by rcases hb with hb | hb; exact hS2.out b hb; exact Nat.le_trans HWr.out.size hb.1⟩
                  rw [List.replicate_succ', rawV_app]
                  exact hown8
                case measure => simp [intOf]; omega
              · obtain rfl : j = m := by omega
                have hjj : ¬ j < j := by omega
                have OX := Lib.hid hown.out
                have hlr : (rawV (List.replicate j (0 : Rat))).length = j := by rw [zbj, List.length_replicate]
                obtain ⟨g, c15, cur15, es15, h15, hg15, hcur15, _, _, _⟩ := OX.out.shape (fun e => by rw [e] at hlr; simp at hlr; omega)
                rw [hlr] at h15
                subst h15
                have hgw : g < wr.heap.size := (Array.getElem?_eq_some_iff.1 hcur15).1
                have Hg15 := Lib.hid hg15
                have HF6 : Hid (∃ cu, wr.heap[g]? = some (.cells cu 50 (0, 0))) := ⟨_, hcur15⟩
                clear hbw hown hcur15 hg15
                go_wp2_with fail
                refine (one_n _).mono ?_
                rintro e w7 ⟨⟨v7, rfl, hv7⟩, hb7⟩
                have VO := Lib.hid (zak (isN_old hv7))
                have HW7 := Lib.hid hb7
                clear hv7 hb7
                go_wp2_with fail
                refine (whole_f VO.out (by rw [zdb]; decide)).mono ?_
                rintro e w8 ⟨⟨v8, rfl, hv8⟩, hb8⟩
                obtain ⟨s8, P8, k8, O8, l8, rfl, _, _, _⟩ := zam hv8
                obtain ⟨z1, hz1⟩ : ∃ z, z = (lim (((1 : Nat) : Int) : Rat).num.natAbs).length := ⟨_, rfl⟩
                obtain ⟨z2, hz2⟩ : ∃ z, z = (lim (((1 : Nat) : Int) : Rat).den).length := ⟨_, rfl⟩
                rw [← hz1, ← hz2] at hv8 ⊢
                have HW8 := Lib.hid (zaa HW7.out hb8)
                have hkj := Hkm.out
                have hT := OwnS.step IsR.stb (T := fun b => S2 b ∨ (wr.heap.size ≤ b ∧ b < w8.heap.size)) OX.out HW8.out (fun b h => .inl h) (fun b h => h)
                have hE : IsR w8 (fun b => S2 b ∨ (wr.heap.size ≤ b ∧ b < w8.heap.size)) (.agg #[.bool s8, .slice P8 z1 k8, .slice O8 z2 l8]) (raw (((1 : Nat) : Int) : Rat)) := IsQ.stb.to hv8 (zaz fun b h => .inr ⟨Nat.le_trans HW7.out.size h.1, h.2⟩)
                obtain ⟨yy, hyy⟩ : ∃ yy, (rawV (List.replicate j (0 : Rat)))[k]? = some yy := ⟨_, List.getElem?_eq_getElem (by rw [hlr]; exact hkj)⟩
                obtain ⟨gb, gO, ev2, hA2, _, hR2, _, hcell2⟩ := IsS.get (hT.isS IsR.stb (T := fun _ => True) (fun b h => trivial) (fun b _ h => trivial)) (by omega) hyy
                cases hA2
                obtain ⟨a1, a2, a3, a4, rfl, _, _⟩ := hR2
                have d0 := hcell2 0 _ rfl
                have d1 := hcell2 1 _ rfl
                have d2 := hcell2 2 _ rfl
                rw [Nat.zero_add] at d0 d1 d2
                rw [Nat.add_zero] at d0
                have hf : ∀ o, w8.frozen? ⟨g, o, none⟩ = false := fun o => by
                  obtain ⟨cu, hcu⟩ := HF6.out
                  simp [World.frozen?, (HW8.out.block g hgw).trans hcu]
                have f0 := hf (k * 3)
                have f1 := hf (k * 3 + 1)
                have f2 := hf (k * 3 + 2)
                have OS : Hid (OwnS 3 50 IsR (putE w8 g k (.bool s8) (.slice P8 z1 k8) (.slice O8 z2 l8)) wo.heap.size (fun b => S2 b ∨ (wr.heap.size ≤ b ∧ b < w8.heap.size)) (.slice (some ⟨g, 0, none⟩) j c15) (rawV (zde s j k 0))) := by
                  have h := OwnS.set3 IsR.stb (g := g) (cap := c15) (l := rawV (List.replicate j (0 : Rat))) (by rw [hlr]; exact hT) (j := k) (by rw [hlr]; exact hkj) hE
                  rw [List.length_set, hlr] at h
                  have e : rawV (zde s j k 0) = (rawV (List.replicate j (0 : Rat))).set k (raw (((1 : Nat) : Int) : Rat)) := by
                    rw [zde, rawV, List.map_set]
                    rfl
                  rw [Hid, e]
                  exact h
                obtain ⟨w9, hw9⟩ : ∃ x, x = ((w8.setCell ⟨g, k * 3, none⟩ (.bool s8)).setCell ⟨g, k * 3 + 1, none⟩ (.slice P8 z1 k8)).setCell ⟨g, k * 3 + 2, none⟩ (.slice O8 z2 l8) := ⟨_, rfl⟩
                have HB9 : Hid (Below wo.heap.size wo w9) := by
                  have h1 := zaa HWr.out HW8.out
                  rw [Hid, hw9]
                  exact h1.grown (zdy (zan _ _)) h1.size (fun x e => by cases e; exact Hg15.out)
                have HG9 := Lib.hid (zaa HGo.out HB9.out)
                have g1 := (HG.out.row.next HG9.out).cell 1
                simp at g1
                rw [← Hnp.out] at g1
                have OS9 : Hid (OwnS 3 50 IsR w9 wo.heap.size (fun b => S2 b ∨ (wr.heap.size ≤ b ∧ b < w8.heap.size)) (.slice (some ⟨g, 0, none⟩) j c15) (rawV (zde s j k 0))) := by rw [Hid, hw9]; exact OS.out
                have cr := zbn
                clear hT hE hyy hcell2 hf hv8 hb8 hz1 hz2 OS
                rw [hw9] at g1
                go_wp2_with fail
                rw [← hw9]
                clear g1 d0 d1 d2 f0 f1 f2 hw9
                go_loopw [68, 13, 14] (fun ii _ _ wr => ∃ (u : Nat) (S3 : Nat → Prop), u ≤ t ∧ ii = .int .i64 (u : Int) ∧ Below wo.heap.size wo wr ∧ Hid (OwnS 3 50 IsR wr wo.heap.size S3 (.slice (some ⟨g, 0, none⟩) j c15) (rawV (zde s j k u))) ∧ Hid (∀ b, S3 b → wo.heap.size ≤ b)) (fun ii _ _ _ => t - (intOf ii).toNat)
                case atStart => exact ⟨0, _, Nat.zero_le _, rfl, HB9.out, OS9.out, fun b hb => by rcases hb with hb | hb; exact hS2.out b hb; exact Nat.le_trans HWr.out.size hb.1⟩
                case round =>
                  obtain ⟨u, S3, hu, rfl, hbu, hownt, hS3⟩ := hrel
                  have HBu := Lib.hid hbu
                  have HGu := Lib.hid (zaa HGo.out hbu)
                  have hG := HG.out
                  have hsl : (rawV (zde s j k u)).length = j := by rw [zbj, kerTo_len]
                  rcases Nat.lt_or_ge u t with hlt | hge
                  · obtain ⟨cc, hcc⟩ : ∃ cc, s.piv[u]? = some cc := ⟨_, List.getElem?_eq_getElem (by rw [← Hnp.out]; exact hlt)⟩
                    have hcm := Hcm.out u cc hcc
                    have hpv := (IsS.stb IsVal.stb).to hG.piv (zax HGu.out)
                    rw [← Hnp.out] at hpv
                    obtain ⟨bp, op, ev, rfl, _, hRe, _, hcell⟩ := IsS.get hpv (by omega) (j := u) (x := .int .i64 (cc : Int)) (by rw [List.getElem?_map, hcc]; rfl)
                    have hRe : ev = .int .i64 (cc : Int) := hRe
                    subst hRe
                    have p0 := hcell 0 _ rfl
                    rw [Nat.mul_one, Nat.add_zero] at p0
                    obtain ⟨b6, c6, cur6, es6, h6, hb6, hcur6, _, _, _, _, h6a, _, _⟩ := hownt.out.shape (fun e => by rw [e] at hsl; simp at hsl; omega)
                    rw [hsl] at h6
                    simp only [Value.slice.injEq, Option.some.injEq, Addr.mk.injEq, and_true, true_and] at h6
                    obtain ⟨rfl, rfl⟩ := h6
                    have hbs := Hbnd.out j (Nat.le_refl j)
                    rw [← Hsr.out] at hbs
                    have Hcc := Lib.hid hcc
                    have Hg6 : Hid (g < wr.heap.size ∧ wo.heap.size ≤ g) := ⟨(Array.getElem?_eq_some_iff.1 hcur6).1, hb6⟩
                    have HF6 : Hid (∃ cu, wr.heap[g]? = some (.cells cu 50 (0, 0))) := ⟨_, hcur6⟩
                    have hc0 : (0 : Int) ≤ (cc : Int) := by omega
                    have hc1 : (cc : Int) < (j : Int) := by omega
                    have hu0 : (0 : Int) ≤ (u : Int) := by omega
                    have hu1 : (u : Int) < (t : Int) := by omega
                    have hxk : u < n := by omega
                    have hlp2 : s.piv.length ≤ 100 := by rw [← Hnp.out]; omega
                    have hat := at_s (hG.mat.next HGu.out (fun b h => h) (fun b h => .inl h)) (hG.row.next HGu.out) (IsK.stb.to hG.num fun b hb => ⟨hb, fun o => HGu.out.cell (p := ⟨b, o, none⟩) (hG.mat.sS b hb)⟩) (Bru.next HB.out (zaa HW3.out HGu.out)) (by omega) (by omega) hlp2 hxk hkj (bnd_len hbs hxk hkj) hbs.2.1 (Nat.pos_iff_ne_zero.1 hbs.2.2)
                    have hsz := Hat.out u k (by rw [← Hnp.out]; exact hlt) hkj
                    rw [← Hnp.out] at hat hsz
                    obtain ⟨q0, hq0⟩ : ∃ z, z = atQ s.A t s.d u k := ⟨_, rfl⟩
                    rw [← hq0] at hat hsz
                    have Hq0 := Lib.hid hq0
                    have Hsz := Lib.hid hsz
                    have Hatt := Lib.hid hat
                    have Hlt := Lib.hid hlt
                    have Hcm1 := Lib.hid hcm
                    clear hcc hpv hcell hcur6 hb6 hbs hat hsz hq0 h6a hbu hG hlt
                    go_wp2_with fail
                    refine Hatt.out.mono ?_
                    rintro e w7 ⟨⟨v7, rfl, hv7⟩, hb7⟩
                    have Q7 := Lib.hid (IsQ.stb.old hv7)
                    have HW7 := Lib.hid hb7
                    obtain ⟨s7, P7, k7, O7, l7, rfl, _, _, _⟩ := zam hv7
                    clear hv7 hb7 p0
                    go_wp2_with fail
                    refine (negative_q Q7.out (Hsz.out.le (by omega)) (p := -q0) rfl).mono ?_
                    rintro e w8 ⟨⟨v8, rfl, hv8⟩, hb8⟩
                    obtain ⟨qq, hqq⟩ : ∃ z, z = -q0 := ⟨_, rfl⟩
                    rw [← hqq] at hv8
                    obtain ⟨s8, P8, k8, O8, l8, rfl, _, _, _⟩ := zam hv8
                    obtain ⟨z1, hz1⟩ : ∃ z, z = (lim qq.num.natAbs).length := ⟨_, rfl⟩
                    obtain ⟨z2, hz2⟩ : ∃ z, z = (lim qq.den).length := ⟨_, rfl⟩
                    rw [← hz1, ← hz2] at hv8 ⊢
                    have HW8 := Lib.hid (zaa HW7.out hb8)
                    have hT := OwnS.step IsR.stb (T := fun b => S3 b ∨ (wr.heap.size ≤ b ∧ b < w8.heap.size)) hownt.out HW8.out (fun b h => .inl h) (fun b h => h)
                    have hE : IsR w8 (fun b => S3 b ∨ (wr.heap.size ≤ b ∧ b < w8.heap.size)) (.agg #[.bool s8, .slice P8 z1 k8, .slice O8 z2 l8]) (raw qq) := IsQ.stb.to hv8 (zaz fun b h => .inr ⟨Nat.le_trans HW7.out.size h.1, h.2⟩)
                    obtain ⟨yy, hyy⟩ : ∃ yy, (rawV (zde s j k u))[cc]? = some yy := ⟨_, List.getElem?_eq_getElem (by rw [hsl]; exact hcm)⟩
                    obtain ⟨gb, gO, ev2, hA2, _, hR2, _, hcell2⟩ := IsS.get (hT.isS IsR.stb (T := fun _ => True) (fun b h => trivial) (fun b _ h => trivial)) (by omega) hyy
                    cases hA2
                    obtain ⟨a1, a2, a3, a4, rfl, _, _⟩ := hR2
                    have d0 := hcell2 0 _ rfl
                    have d1 := hcell2 1 _ rfl
                    have d2 := hcell2 2 _ rfl
                    rw [Nat.zero_add] at d0 d1 d2
                    rw [Nat.add_zero] at d0
                    have hf : ∀ o, w8.frozen? ⟨g, o, none⟩ = false := fun o => by
                      obtain ⟨cu, hcu⟩ := HF6.out
                      simp [World.frozen?, (HW8.out.block g Hg6.out.1).trans hcu]
                    have f0 := hf (cc * 3)
                    have f1 := hf (cc * 3 + 1)
                    have f2 := hf (cc * 3 + 2)
                    have OS : Hid (OwnS 3 50 IsR (putE w8 g cc (.bool s8) (.slice P8 z1 k8) (.slice O8 z2 l8)) wo.heap.size (fun b => S3 b ∨ (wr.heap.size ≤ b ∧ b < w8.heap.size)) (.slice (some ⟨g, 0, none⟩) j c15) (rawV (zde s j k (u + 1)))) := by
                      have h := OwnS.set3 IsR.stb (g := g) (cap := c15) (l := rawV (zde s j k u)) (by rw [hsl]; exact hT) (j := cc) (by rw [hsl]; exact hcm) hE
                      rw [List.length_set, hsl] at h
                      have e : rawV (zde s j k (u + 1)) = (rawV (zde s j k u)).set cc (raw qq) := by
                        rw [zde, rawV, List.map_set, List.getD_eq_getElem?_getD, Hcc.out, Option.getD_some, ← Hnp.out, ← Hq0.out, ← hqq]
                        rfl
                      rw [Hid, e]
                      exact h
                    have HB7 : Hid (Below wo.heap.size wo (putE w8 g cc (.bool s8) (.slice P8 z1 k8) (.slice O8 z2 l8))) := by
                      have h1 := zaa HBu.out HW8.out
                      exact h1.grown (zdy (zan _ _)) h1.size (fun x e => by cases e; exact Hg6.out.2)
                    have cr := zbn
                    have hlt := Hlt.out
                    clear hT hE hyy hcell2 hf hv8 hb8 hqq hz1 hz2
                    go_wp2_with fail
                    clear d0 d1 d2 f0 f1 f2
                    go_roundw
                    case rel => exact ⟨u + 1, _, hlt, by go_num, HB7.out, OS.out, fun b hb => by rcases hb with hb | hb; exact hS3.out b hb; exact Nat.le_trans HBu.out.size hb.1⟩
                    case measure => simp [intOf]; omega
                  · obtain rfl : u = t := by omega
                    have huu : ¬ u < u := by omega
                    have hown1 := OwnS.step IsV.stb (T := fun b => S b ∨ (wo.heap.size ≤ b ∧ b < wr.heap.size)) Own.out HBu.out (fun b h => .inl h) (fun b h => h)
                    have hel1 := OwnS.isS IsR.stb (T := fun b => S b ∨ (wo.heap.size ≤ b ∧ b < wr.heap.size)) hownt.out (fun b hb => .inr ⟨hS3.out b hb, by obtain ⟨_, _, _, _, h4⟩ := hownt.out; exact (h4 b hb).1⟩) (fun b h1 h2 => .inr ⟨h1, h2⟩)
                    have hbase : w5.heap.size ≤ wr.heap.size := (zaa HWo.out HBu.out).size
                    have HB9' := Lib.hid (zaa HWo.out HBu.out)
                    have hkl := kerQ_len s j k
                    clear hbu hG
                    go_wp2_with (at_builtin; refine zcx elV rfl _ _ rfl IsV.stb rfl rfl rfl hown1 hel1 rfl (by intro u hu; simp [Value.cells] at hu; subst hu; rfl) (by rw [zda]; omega) hbase ?_; intro v9 w9 hown9 hb9 hz9)
                    go_roundw
                    case rel =>
                      refine ⟨k + 1, fun b => S b ∨ (wo.heap.size ≤ b ∧ b < wr.heap.size), Hkm.out, by go_num, HB9'.out.trans hb9, ?_⟩
                      rw [Hid, kerQ_out Hin.out, ← Hnp.out, rawM_one]
                      exact hown9
                    case measure => have := Hkm.out; simp [intOf]; omega
        · obtain rfl : k = m := by omega
          have hkk : ¬ k < k := by omega
          have HI8 : Hid (IsM wo (Old wo) _ (rawM (kerQ s k k))) := Own.out.isS IsV.stb (fun b h => by obtain ⟨_, _, _, _, h4⟩ := Own.out; exact (h4 b h).1) (fun b _ h => h)
          clear hbw hown
          go_wp2_with fail
          refine (boundedRows_l HI8.out).mono ?_
          rw [bndM_ok Hfit.out]
          rintro e w9 ⟨rfl, hb9⟩
          have V9 := Lib.hid (IsM.stb.next HI8.out hb9)
          have HW9 := Lib.hid (zaa HWw.out hb9)
          clear hb9
          go_wp2_with fail
          go_ret2
          exact ⟨⟨_, rfl, V9.out⟩, HW9.out⟩
theorem ratof_i {w : World} (a b : Int) (ha : a.natAbs ≤ 1000000) (hb : 1 ≤ b) (hb1 : b ≤ 1000000) :
    Calls Tryd.prog 21 #[.int .i64 a, .int .i64 b] w fun e w' => (∃ v, e = .returned v ∧ IsQ w' (New w.heap.size w') v (zdf a b.toNat)) ∧ Below w.heap.size w w' := by
  have e : b = ((b.toNat : Nat) : Int) := by omega
  rw [e]
  exact (ratof_q (a := a) (b := b.toNat) (by omega) (by omega) (by omega)).mono fun e w' ⟨⟨v, he, hv⟩, h⟩ => ⟨⟨v, he, by rw [Int.toNat_natCast]; exact hv⟩, h⟩
def Drawn (K : Nat) (q : Rat) : Prop := ∃ (a : Int) (b : Nat), a.natAbs ≤ K ∧ 1 ≤ b ∧ b ≤ K ∧ q = zdf a b
theorem Drawn.sz {K : Nat} {q : Rat} (h : Drawn K q) (hK : K ≤ 1000000) : Sz q 1 := by
  obtain ⟨a, b, h1, h2, h3, rfl⟩ := h
  exact sz_of_mk (by omega) (lim_len_le.2 (by unfold pw; omega)) (lim_len_le.2 (by unfold pw; omega))
def Twelve (B : Nat) (q : Rat) : Prop := ∃ z : Int, q * 12 = (z : Rat) ∧ z.natAbs ≤ B
theorem Twelve.le {B C : Nat} {q : Rat} (h : Twelve B q) (hB : B ≤ C) : Twelve C q := by
  obtain ⟨z, h1, h2⟩ := h
  exact ⟨z, h1, Nat.le_trans h2 hB⟩
theorem Twelve.add {B C : Nat} {p q : Rat} (h : Twelve B p) (k : Twelve C q) : Twelve (B + C) (p + q) := by
  obtain ⟨z, h1, h2⟩ := h
  obtain ⟨y, k1, k2⟩ := k
  refine ⟨z + y, by rw [Rat.intCast_add, ← h1, ← k1]; grind, by omega⟩
theorem Twelve.mk {B : Nat} {q : Rat} (h : Twelve B q) : ∃ z : Int, q = mkRat z 12 ∧ z.natAbs ≤ B := by
  obtain ⟨z, h1, h2⟩ := h
  refine ⟨z, ?_, h2⟩
  rw [Rat.mkRat_eq_div, ← h1]
  have : ((12 : Nat) : Rat) = 12 := rfl
  rw [this]
  grind
theorem Twelve.sz {B : Nat} {q : Rat} (h : Twelve B q) (hB : B ≤ 1000000) : Sz q 1 := by
  obtain ⟨z, rfl, h2⟩ := h.mk
  exact sz_of_mk (by omega) (lim_len_le.2 (by unfold pw; omega)) (lim_len_le.2 (by unfold pw; omega))
theorem Drawn.twelve {q : Rat} (h : Drawn 4 q) : Twelve 48 q := by
  obtain ⟨a, b, h1, h2, h3, rfl⟩ := h
  unfold zdf
  have hb : b = 1 ∨ b = 2 ∨ b = 3 ∨ b = 4 := by omega
  rcases hb with rfl | rfl | rfl | rfl
  · exact ⟨a * 12, by rw [Rat.mkRat_eq_div, Rat.intCast_mul]; show (a : Rat) / 1 * 12 = _ * 12; grind, by omega⟩
  · exact ⟨a * 6, by rw [Rat.mkRat_eq_div, Rat.intCast_mul]; show (a : Rat) / 2 * 12 = _ * 6; grind, by omega⟩
  · exact ⟨a * 4, by rw [Rat.mkRat_eq_div, Rat.intCast_mul]; show (a : Rat) / 3 * 12 = _ * 4; grind, by omega⟩
  · exact ⟨a * 3, by rw [Rat.mkRat_eq_div, Rat.intCast_mul]; show (a : Rat) / 4 * 12 = _ * 3; grind, by omega⟩
def DrewR {α : Type} (R : World → (Nat → Prop) → Value → α → Prop) (P : α → Prop) (w : World) (g : Nat) (l : List Int) (e : Ending) (w' : World) : Prop := (∃ v x, e = .returned v ∧ R w' (New w.heap.size w') v x ∧ P x) ∧ IsD w' g l ∧ w.grownBy w' (some g)
theorem OwnS.drawn {α : Type} {n : Nat} {t : TypeId} {R : World → (Nat → Prop) → Value → α → Prop} (hR : Stb R) {w w' : World} {base : Nat} {S : Nat → Prop} {v : Value} {l : List α} {g : Nat} (h : OwnS n t R w base S v l) (hS : ∀ b, S b → base ≤ b) (hb : w.grownBy w' (some g)) (hg : g < base) :
    OwnS n t R w' base (fun b => S b ∨ (w.heap.size ≤ b ∧ b < w'.heap.size)) v l := by
  have h1 := h.grown hR hb fun b e => ⟨fun e' => by have := (OwnS.own_lt h b e').1; cases e; omega, fun hs => by have := hS b hs; cases e; omega⟩
  refine h1.wider hR (fun b h => .inl h) fun b hb' => ?_
  rcases hb' with hs | ⟨h2, h3⟩
  · obtain ⟨_, _, _, _, h4⟩ := h1
    exact h4 b hs
  · exact ⟨h3, fun e => by have := (OwnS.own_lt h b e.symm).2; omega⟩
set_option maxRecDepth 100000 in
set_option maxHeartbeats 2000000 in
theorem rational_q {w : World} {g : Nat} {l : List Int} (hD : IsD w g l) {K : Int} (hK : K = 4 ∨ K = 5) : Calls Tryd.prog 65 #[.pointer (some ⟨g, 0, none⟩), .int .i64 K] w (DrewR IsQ (Drawn K.toNat) w g l) := by
  have hgw := hD.lt
  obtain ⟨w0, hw0, hb0, rZ, Hz⟩ := zch w #[.bool false, .slice none 0 0, .slice none 0 0] 50
  have D0 := Lib.hid (hD.next hb0 hgw)
  have B0 := Lib.hid hb0
  have RZ := Lib.hid rZ
  clear hD hb0 rZ
  rcases hK with rfl | rfl
  · go_enter Tryd.func65, Tryd.ntmps65
    go_wp2_with fail
    clear hw0
    refine (next_i D0.out 9 (by omega) (by omega)).mono ?_
    rintro e w1 ⟨⟨x, hx0, hx1, rfl⟩, hD1, hO1⟩
    have D1 := Lib.hid hD1
    have G1 := Lib.hid hO1.grown
    have RZ1 := Lib.hid (RZ.out.grownN hO1.grown fun b e => by cases e; omega)
    clear hD1 hO1
    go_wp2_with fail
    refine (next_i D1.out 4 (by omega) (by omega)).mono ?_
    rintro e w2 ⟨⟨y, hy0, hy1, rfl⟩, hD2, hO2⟩
    have D2 := Lib.hid hD2
    have G2 := Lib.hid (zat G1.out hO2.grown)
    have RZ2 := Lib.hid (RZ1.out.grownN hO2.grown fun b e => by cases e; omega)
    clear hD2 hO2
    go_wp2_with fail
    refine (ratof_i (x - 4) (1 + y) (by omega) (by omega) (by omega)).mono ?_
    rintro e w3 ⟨⟨v3, rfl, hv3⟩, hb3⟩
    have V3 := Lib.hid hv3
    have Hsq : Hid (Drawn 4 (zdf (x - 4) (1 + y).toNat)) := ⟨_, _, by omega, by omega, by omega, rfl⟩
    have D3 := Lib.hid (D2.out.next hb3 D2.out.lt)
    have RZ3 := Lib.hid (RZ2.out.next hb3)
    have G3 := Lib.hid (zat (zat (zbf (row := some g) B0.out) G2.out) (zbf hb3))
    obtain ⟨s3, P3, k3, O3, l3, rfl, _, _, _⟩ := zam hv3
    obtain ⟨d0, d1, d2⟩ := zad RZ3.out
    obtain ⟨f0, f1, f2⟩ := zaq RZ3.out
    have hz2 : w.heap.size < w2.heap.size := RZ2.out.lt
    clear hb3 hv3
    go_wp2_with fail
    refine zbb Tryd.results65 rfl rfl (Row.put3 RZ3.out _ _ _) ⟨⟨_, _, rfl, IsQ.stb.to V3.out (zbz fun b hb => ⟨by have := hb.1; omega, ⟨by have := hb.1; omega, by rw [zcr]; exact hb.2⟩⟩), Hsq.out⟩, ((D3.out.far (p := ⟨w.heap.size, 0, none⟩) hgw _).far (p := ⟨w.heap.size, 1, none⟩) hgw _).far (p := ⟨w.heap.size, 2, none⟩) hgw _, zcy (zcy (zcy G3.out (Nat.le_refl _) _ _) (Nat.le_refl _) _ _) (Nat.le_refl _) _ _⟩
  · go_enter Tryd.func65, Tryd.ntmps65
    go_wp2_with fail
    clear hw0
    refine (next_i D0.out 11 (by omega) (by omega)).mono ?_
    rintro e w1 ⟨⟨x, hx0, hx1, rfl⟩, hD1, hO1⟩
    have D1 := Lib.hid hD1
    have G1 := Lib.hid hO1.grown
    have RZ1 := Lib.hid (RZ.out.grownN hO1.grown fun b e => by cases e; omega)
    clear hD1 hO1
    go_wp2_with fail
    refine (next_i D1.out 5 (by omega) (by omega)).mono ?_
    rintro e w2 ⟨⟨y, hy0, hy1, rfl⟩, hD2, hO2⟩
    have D2 := Lib.hid hD2
    have G2 := Lib.hid (zat G1.out hO2.grown)
    have RZ2 := Lib.hid (RZ1.out.grownN hO2.grown fun b e => by cases e; omega)
    clear hD2 hO2
    go_wp2_with fail
    refine (ratof_i (x - 5) (1 + y) (by omega) (by omega) (by omega)).mono ?_
    rintro e w3 ⟨⟨v3, rfl, hv3⟩, hb3⟩
    have V3 := Lib.hid hv3
    have Hsq : Hid (Drawn 5 (zdf (x - 5) (1 + y).toNat)) := ⟨_, _, by omega, by omega, by omega, rfl⟩
    have D3 := Lib.hid (D2.out.next hb3 D2.out.lt)
    have RZ3 := Lib.hid (RZ2.out.next hb3)
    have G3 := Lib.hid (zat (zat (zbf (row := some g) B0.out) G2.out) (zbf hb3))
    obtain ⟨s3, P3, k3, O3, l3, rfl, _, _, _⟩ := zam hv3
    obtain ⟨d0, d1, d2⟩ := zad RZ3.out
    obtain ⟨f0, f1, f2⟩ := zaq RZ3.out
    have hz2 : w.heap.size < w2.heap.size := RZ2.out.lt
    clear hb3 hv3
    go_wp2_with fail
    refine zbb Tryd.results65 rfl rfl (Row.put3 RZ3.out _ _ _) ⟨⟨_, _, rfl, IsQ.stb.to V3.out (zbz fun b hb => ⟨by have := hb.1; omega, ⟨by have := hb.1; omega, by rw [zcr]; exact hb.2⟩⟩), Hsq.out⟩, ((D3.out.far (p := ⟨w.heap.size, 0, none⟩) hgw _).far (p := ⟨w.heap.size, 1, none⟩) hgw _).far (p := ⟨w.heap.size, 2, none⟩) hgw _, zcy (zcy (zcy G3.out (Nat.le_refl _) _ _) (Nat.le_refl _) _ _) (Nat.le_refl _) _ _⟩
set_option maxHeartbeats 400000 in
theorem rtrim_same (A : Option Addr) (c : Nat) (l : List Nat) (w : World) (lo hi : Nat) (hl : Lo l) (hll : l.length ≤ c) (hlc : c ≤ maxLen) (hA : SV w lo hi A (cel .u32 l)) :
    Calls Tryd.prog 112 #[.slice A l.length c] w fun e w' => (∃ m, e = .returned (.slice A m c) ∧ m ≤ l.length ∧ lim (val l) = l.take m) ∧ w = w' := by
  have Hlc2 := Lib.hid hlc
  unfold maxLen at hlc
  have Hl := Lib.hid hl; clear hl
  go_enter Tryd.func112, Tryd.ntmps112
  go_wp2
  go_loop [0] (fun s => ∃ m : Nat, m ≤ l.length ∧ s = .slice A m c ∧ Hid (∀ j, m ≤ j → j < l.length → l.getD j 0 = 0)) (fun s => match s with | .slice _ m _ => m | _ => 0)
  case atStart => exact ⟨l.length, Nat.le_refl _, rfl, Lib.hid (by intro j h1 h2; omega)⟩
  case round =>
    obtain ⟨m, hm, rfl, hz⟩ := hrel
    rcases m with _ | m
    · go_wp2
      go_ret
      exact ⟨⟨0, rfl, Nat.zero_le _, trim_to Hl.out (Nat.zero_le _) hz.out (.inl rfl)⟩, rfl⟩
    · obtain ⟨ba, oa, rfl, _, _, hca⟩ := hA (zbo hm)
      obtain ⟨x, hx, hx0, hxc⟩ := zeg (j := m) hca (by omega)
      clear hca
      by_cases h0 : x = 0
      · subst h0
        go_wp2
        go_round
        case rel => exact ⟨m, by omega, rfl, Lib.hid (by
          intro j h1 h2
          rcases Nat.eq_or_lt_of_le h1 with h3 | h3
          · subst h3; have := hx.out; omega
          · exact hz.out j h3 h2)⟩
        case measure => simp
      · have hb : (x == 0) = false := by simpa using h0
        go_wp2
        go_ret
        exact ⟨⟨m + 1, rfl, hm, trim_to Hl.out hm hz.out (.inr (by have := hx.out; simp only [Nat.add_sub_cancel]; omega))⟩, rfl⟩
theorem rtrim_list (A : Option Addr) (c : Nat) (l : List Nat) (w : World) (lo hi : Nat) (hl : Lo l) (hll : l.length ≤ c) (hlc : c ≤ maxLen) (hA : SV w lo hi A (cel .u32 l)) :
    Calls Tryd.prog 112 #[.slice A l.length c] w fun e w' => (∃ v, e = .returned v ∧ IsN w lo hi v (val l)) ∧ w = w' :=
  (rtrim_same A c l w lo hi hl hll hlc hA).mono fun e w' ⟨⟨m, he, hm, ht⟩, hw⟩ => ⟨⟨_, he, A, c, by rw [ht, List.length_take, Nat.min_eq_left hm], by rw [ht, List.length_take]; omega, hlc, by rw [ht, cel_take]; exact hA.take m⟩, hw⟩
theorem rtrim_l {w : World} {va : Value} {l : List Nat} {lo hi : Nat} (ha : IsL .u32 w lo hi va l) (hl : Lo l) :
    Calls Tryd.prog 112 #[va] w fun e w' => (∃ v, e = .returned v ∧ IsN w lo hi v (val l)) ∧ w = w' := by
  obtain ⟨A, c, rfl, hc, hcm, hA⟩ := ha
  exact rtrim_list A c l w lo hi hl hc hcm hA
set_option maxRecDepth 100000 in
set_option maxHeartbeats 1000000 in
theorem rplus_n {w : World} {va vb : Value} {x y : Nat} {lo hi lo' hi' : Nat} (ha : IsN w lo hi va x) (hb : IsN w lo' hi' vb y) (hi1 : hi ≤ w.heap.size) (hi2 : hi' ≤ w.heap.size) (hx : (lim x).length ≤ 4294967296) (hy : (lim y).length ≤ 4294967296) :
    Calls Tryd.prog 81 #[va, vb] w fun e w' => (∃ v, e = .returned v ∧ IsN w' w.heap.size w'.heap.size v (x + y)) ∧ Below w.heap.size w w' := by
  obtain ⟨A, c, rfl, _, _, hA⟩ := ha
  obtain ⟨B, d, rfl, _, _, hB⟩ := hb
  obtain ⟨M, hM1, hM2, hM3⟩ : ∃ M : Nat, (lim x).length ≤ M ∧ (lim y).length ≤ M ∧ (M = (lim x).length ∨ M = (lim y).length) := ⟨max (lim x).length (lim y).length, by omega, by omega, by omega⟩
  have hM : Hid (∀ k, k < M → pw k ≤ x + y) := by
    intro k hk
    rcases hM3 with h | h
    · have := zfb (x := x) (k := k) (by omega); omega
    · have := zfb (x := y) (k := k) (by omega); omega
  generalize hla : lim x = a at *
  generalize hlb : lim y = b at *
  have Hal : Hid (Lo a ∧ val a = x) := by rw [Hid, ← hla]; exact ⟨zbi x, zbg x⟩
  have Hbl : Hid (Lo b ∧ val b = y) := by rw [Hid, ← hlb]; exact ⟨zbi y, zbg y⟩
  have hM4 : M ≤ 4294967296 := by omega
  clear hla hlb hM3
  generalize hBs : w.heap.size = bs at *
  have HB := Lib.hid hBs; clear hBs
  go_enter Tryd.func81, Tryd.ntmps81
  go_wp2
  go_loopw [5, 6, 7] (fun v cy i wr => ∃ (k : Nat) (L : List Nat) (q : Int), k ≤ M + 1 ∧ i = .int .i64 (k : Int) ∧ cy = .int .u32 q ∧ 0 ≤ q ∧ q ≤ 1 ∧ Own wr bs 94 v (cel .u32 L) ∧ Below bs w wr ∧
      Hid (L.length = k ∧ Lo L ∧ (val L : Int) + q * pw k = val (a.take k) + val (b.take k) ∧ (M < k → q = 0 ∧ pw M ≤ val L))) (fun _ _ i _ => M + 1 - (intOf i).toNat)
  case atStart => exact ⟨0, [], 0, by omega, rfl, rfl, by omega, by omega, Own.nil _ _ _, Below.refl _ _, rfl, lo_nil, by simp [val], fun h => by omega⟩
  case round =>
    obtain ⟨k, L, q, hk, rfl, rfl, hq0, hq1, hown, hbw, hrel⟩ := hrel
    have hBw : bs ≤ wr.heap.size := by have := hbw.size; have := HB.out; omega
    have hkc : k ≤ 4294967297 := by omega
    have hlen : Hid ((cel .u32 L).length ≤ 4294967297) := by rw [Hid, zbq, hrel.out.1]; omega
    rcases Nat.lt_or_ge k a.length with hka | hka
    · obtain ⟨ba, oa, rfl, _, _, hca⟩ := (hA.below hbw hi1) (zbo (j := k) hka)
      obtain ⟨x1, hx1, hx10, hx11, hx1c⟩ := zbl (j := k) Hal.out.1 hca hka
      clear hca
      rcases Nat.lt_or_ge k b.length with hkb | hkb
      · obtain ⟨bb, ob, rfl, _, _, hcb⟩ := (hB.below hbw hi2) (zbo (j := k) hkb)
        obtain ⟨y1, hy1, hy10, hy11, hy1c⟩ := zbl (j := k) Hbl.out.1 hcb hkb
        clear hcb
        go_wp2_with (at_builtin; refine zcl elN rfl _ _ rfl rfl hown rfl rfl (by have := hlen.out; omega) hBw ?_; intro v1 w1 hown1 hbw1 hz1)
        go_roundw
        case rel =>
          rw [zbv .u32 L ((q + x1 + y1) % 1000000000).toNat _ (by omega)] at hown1
          exact ⟨k + 1, _, (q + x1 + y1) / 1000000000, by omega, by go_num, rfl, by omega, by omega, hown1, hbw.trans hbw1, by rw [List.length_append]; simp [hrel.out.1], zct hrel.out.2.1 (by omega), zcq hrel.out.1 hx1.out hy1.out (by omega) (by omega) hrel.out.2.2.1, fun h => by omega⟩
        case measure => simp [intOf]; omega
      · go_wp2_with (at_builtin; refine zcl elN rfl _ _ rfl rfl hown rfl rfl (by have := hlen.out; omega) hBw ?_; intro v1 w1 hown1 hbw1 hz1)
        go_roundw
        case rel =>
          rw [zbv .u32 L ((q + x1) % 1000000000).toNat _ (by omega)] at hown1
          exact ⟨k + 1, _, (q + x1) / 1000000000, by omega, by go_num, rfl, by omega, by omega, hown1, hbw.trans hbw1, by rw [List.length_append]; simp [hrel.out.1], zct hrel.out.2.1 (by omega), zcq (y := 0) hrel.out.1 hx1.out (by rw [zce hkb]; rfl) (by omega) (by omega) hrel.out.2.2.1, fun h => by omega⟩
        case measure => simp [intOf]; omega
    · rcases Nat.lt_or_ge k b.length with hkb | hkb
      · obtain ⟨bb, ob, rfl, _, _, hcb⟩ := (hB.below hbw hi2) (zbo (j := k) hkb)
        obtain ⟨y1, hy1, hy10, hy11, hy1c⟩ := zbl (j := k) Hbl.out.1 hcb hkb
        clear hcb
        go_wp2_with (at_builtin; refine zcl elN rfl _ _ rfl rfl hown rfl rfl (by have := hlen.out; omega) hBw ?_; intro v1 w1 hown1 hbw1 hz1)
        go_roundw
        case rel =>
          rw [zbv .u32 L ((q + y1) % 1000000000).toNat _ (by omega)] at hown1
          exact ⟨k + 1, _, (q + y1) / 1000000000, by omega, by go_num, rfl, by omega, by omega, hown1, hbw.trans hbw1, by rw [List.length_append]; simp [hrel.out.1], zct hrel.out.2.1 (by omega), zcq (x := 0) hrel.out.1 (by rw [zce hka]; rfl) hy1.out (by omega) (by omega) hrel.out.2.2.1, fun h => by omega⟩
        case measure => simp [intOf]; omega
      · have hV : Hid ((val L : Int) + q * pw k = x + y) := by
          have := hrel.out.2.2.1
          rw [zay hka, zay hkb, Hal.out.2, Hbl.out.2] at this
          exact this
        rcases Int.lt_or_le 0 q with hqp | hqz
        · have hkM : k ≤ M := by
            rcases Nat.lt_or_ge M k with h | h
            · have := hrel.out.2.2.2 h; omega
            · exact h
          go_wp2_with (at_builtin; refine zcl elN rfl _ _ rfl rfl hown rfl rfl (by have := hlen.out; omega) hBw ?_; intro v1 w1 hown1 hbw1 hz1)
          go_roundw
          case rel =>
            rw [zbv .u32 L (q % 1000000000).toNat _ (by omega)] at hown1
            refine ⟨k + 1, _, q / 1000000000, by omega, by go_num, rfl, by omega, by omega, hown1, hbw.trans hbw1, by rw [List.length_append]; simp [hrel.out.1], zct hrel.out.2.1 (by omega), zcq (x := 0) (y := 0) hrel.out.1 (by rw [zce hka]; rfl) (by rw [zce hkb]; rfl) (by omega) (by omega) hrel.out.2.2.1, fun h => ⟨by omega, ?_⟩⟩
            rw [zbw, hrel.out.1, show (q % 1000000000).toNat = 1 from by omega, show k = M from by omega, zfh, zev]
            omega
          case measure => simp [intOf]; omega
        · obtain rfl : q = 0 := by omega
          have hfin : Hid (lim (x + y) = L) := by
            have h1 : val L = x + y := by have := hV.out; omega
            rw [Hid, ← h1]
            refine zem hrel.out.2.1 ?_
            rcases Nat.lt_or_ge M k with h | h
            · exact .inr (by rw [hrel.out.1, show k - 1 = M from by omega]; exact (hrel.out.2.2.2 h).2)
            · rcases Nat.eq_zero_or_pos k with h0 | h0
              · exact .inl (List.eq_nil_of_length_eq_zero (by rw [hrel.out.1]; exact h0))
              · exact .inr (by rw [hrel.out.1, h1]; exact hM.out (k - 1) (by omega))
          go_wp2
          go_ret
          refine ⟨⟨_, rfl, ?_⟩, hbw⟩
          unfold IsN
          rw [hfin.out]
          exact Own.isL hown
set_option maxRecDepth 100000 in
set_option maxHeartbeats 1000000 in
theorem zel {w : World} {va vb : Value} {x y : Nat} {lo hi lo' hi' : Nat} (ha : IsN w lo hi va x) (hb : IsN w lo' hi' vb y) (hi1 : hi ≤ w.heap.size) (hi2 : hi' ≤ w.heap.size) (hx : (lim x).length ≤ 4294967296) (hy : (lim y).length ≤ 4294967296) :
    Calls Tryd.prog 79 #[va, vb] w fun e w' => (∃ v, e = .returned v ∧ IsN w' w.heap.size w'.heap.size v (x * y)) ∧ Below w.heap.size w w' := by
  obtain ⟨A, c, rfl, _, _, hA⟩ := ha
  obtain ⟨B, d, rfl, _, _, hB⟩ := hb
  generalize hla : lim x = a at *
  generalize hlb : lim y = b at *
  have Hal : Hid (Lo a ∧ val a = x) := by rw [Hid, ← hla]; exact ⟨zbi x, zbg x⟩
  have Hbl : Hid (Lo b ∧ val b = y) := by rw [Hid, ← hlb]; exact ⟨zbi y, zbg y⟩
  clear hla hlb
  go_enter Tryd.func79, Tryd.ntmps79
  go_wp2_with (at_make; refine wp_make elN rfl _ _ rfl (a.length + b.length) rfl rfl rfl rfl (by omega) ?_; intro G w1 hG hrow hb1 hz1)
  go_loopw [6] (fun i wr => ∃ k : Nat, ∃ L : List Nat, k ≤ a.length ∧ i = .int .i64 (k : Int) ∧ Row wr G 94 (cel .u32 L) ∧ Below G w wr ∧ Hid (wr.heap.size = G + 1) ∧
      Hid (L.length = a.length + b.length ∧ Lo L ∧ (∀ j, k + b.length ≤ j → L.getD j 0 = 0) ∧ val L = val (a.take k) * val b)) (fun i _ => a.length - (intOf i).toNat)
  case atStart => exact ⟨0, _, Nat.zero_le _, rfl, hrow, hb1, hz1, by simp, zcn _, fun j _ => by rw [List.getD_eq_getElem?_getD, List.getElem?_replicate]; split <;> rfl, by rw [val_nil_take, Nat.zero_mul]; exact val_zeros (fun x hx => (List.mem_replicate.1 hx).2)⟩
  case round =>
    obtain ⟨k, L, hk, rfl, hr, hbw, hsz, hrel⟩ := hrel
    have hbw' : Below w.heap.size w wr := by have := hG.out; subst this; exact hbw
    rcases Nat.lt_or_ge k a.length with hlt | hge
    · obtain ⟨ba, oa, rfl, _, _, _⟩ := hA (zbo (j := k) hlt)
      have HR := hrel; clear hrel
      obtain ⟨wo, rfl⟩ : ∃ wo : World, wo = wr := ⟨_, rfl⟩
      go_wp2
      go_loopw [7, 8] (fun cr i wi => ∃ j : Nat, ∃ M : List Nat, ∃ cy : Int, j ≤ b.length ∧ i = .int .i64 (j : Int) ∧ cr = .int .u64 cy ∧ 0 ≤ cy ∧ cy ≤ 999999999 ∧ Row wi G 94 (cel .u32 M) ∧ Below G w wi ∧ Hid (wi.heap.size = G + 1) ∧
          Hid (M.length = a.length + b.length ∧ Lo M ∧ (∀ j, k + b.length ≤ j → M.getD j 0 = 0) ∧ (val M : Int) + cy * pw (k + j) = val L + ((a.getD k 0 : Nat) : Int) * pw k * val (b.take j))) (fun _ i _ => b.length - (intOf i).toNat)
      case atStart => exact ⟨0, L, 0, Nat.zero_le _, rfl, rfl, by omega, by omega, hr, hbw, hsz, HR.out.1, HR.out.2.1, HR.out.2.2.1, by simp [val]⟩
      case round =>
        clear hr hbw hbw' hsz
        obtain ⟨j, M, cy, hj, rfl, rfl, hcy0, hcy1, hr, hbw, hsz, hrel⟩ := hrel
        have hbw' : Below w.heap.size w wr := by have := hG.out; subst this; exact hbw
        have hkM : Hid (k + b.length < M.length) := by rw [hrel.out.1]; unfold Hid; omega
        rcases Nat.lt_or_ge j b.length with hjl | hjg
        · obtain ⟨x, hx, hx0, hx1, hxc⟩ := zbl (j := k) Hal.out.1 (hA.below hbw' hi1).at_ hlt
          obtain ⟨bb, ob, rfl, _, _, hcb⟩ := (hB.below hbw' hi2) (zbo (j := j) hjl)
          obtain ⟨y, hy, hy0, hy1, hyc⟩ := zbl (j := j) Hbl.out.1 hcb hjl
          clear hcb
          obtain ⟨z, hz, hz0, hz1, hzc⟩ := hr.lo hrel.out.2.1 (i := k + j) (by have := hkM.out; omega)
          have hzf := hr.frozen (k + j)
          have hxy := zcc hx0 hx1 hy0 hy1
          have hxy0 := hxy.1
          have hxy1 := hxy.2
          clear hxy
          go_wp2
          go_quiet (fail)
          go_wp2
          go_roundw
          case rel =>
            refine ⟨j + 1, M.set (k + j) ((cy + z + x * y) % 1000000000).toNat, (cy + z + x * y) / 1000000000, by omega, by go_num, rfl, by omega, by omega, (hr.drewN _).setNum (k + j) _ _ (by omega), (below_drewN hbw _).setCell (Nat.le_refl _) _,
              by have := hsz.out; simpa [Hid, World.setCell] using this, by rw [List.length_set]; exact hrel.out.1, zca hrel.out.2.1 (by omega), fun i hi => by rw [zbs (by omega)]; exact hrel.out.2.2.1 i hi, ?_⟩
            rw [← hx.out]
            exact mul_step (by have := hkM.out; omega) hy.out hz.out (t := cy + z + x * y) (c := cy) (c' := (cy + z + x * y) / 1000000000) (r := (cy + z + x * y) % 1000000000) (by omega) (by omega) (by omega) (by rw [hx.out]; exact hrel.out.2.2.2)
          case measure => simp [intOf]; omega
        · obtain rfl : j = b.length := by omega
          obtain ⟨z, hz, hz0, hzc⟩ := hr.num (i := k + b.length) hkM.out
          have hzf := hr.frozen (k + b.length)
          go_wp2
          go_roundw
          case rel =>
            exact ⟨k + 1, M.set (k + b.length) cy.toNat, by omega, by go_num, hr.setNum (k + b.length) _ _ (by omega), hbw.setCell (Nat.le_refl _) _,
              by have := hsz.out; simpa [Hid, World.setCell] using this, by rw [List.length_set]; exact hrel.out.1, zca hrel.out.2.1 (by omega), fun i hi => by rw [zbs (by omega)]; exact hrel.out.2.2.1 i (by omega),
              mul_row rfl hkM.out rfl (hrel.out.2.2.1 _ (Nat.le_refl _)) hcy0 HR.out.2.2.2 hrel.out.2.2.2⟩
          case measure => simp [intOf]; omega
    · obtain rfl : k = a.length := by omega
      have H1 : Hid (Row wr G 94 (cel .u32 L) ∧ val L = x * y ∧ L.length = a.length + b.length ∧ Lo L) := ⟨hr, by have := hrel.out.2.2.2; rw [zay (Nat.le_refl _), Hal.out.2, Hbl.out.2] at this; exact this, hrel.out.1, hrel.out.2.1⟩
      clear hr hrel
      go_wp2_with fail
      rw [← H1.out.2.2.1]
      refine (rtrim_list _ _ L wr G (G + 1) H1.out.2.2.2 (Nat.le_refl _) (by have := H1.out.2.2.1; unfold maxLen; omega) H1.out.1.sv).mono ?_
      rintro e w2 ⟨⟨v, rfl, hv⟩, rfl⟩
      go_wp2_with fail
      go_ret
      refine ⟨⟨_, rfl, ?_⟩, hbw'⟩
      rw [← H1.out.2.1]
      exact hv.wide (by have := hG.out; omega) (by have := hsz.out; omega)
def WrN (w : World) (base : Nat) (v : Value) (n : Nat) : Prop := (v = .slice none 0 0 ∧ n = 0) ∨ ∃ g cap cur, v = .slice (some ⟨g, 0, none⟩) (lim n).length cap ∧ base ≤ g ∧ Row w g 94 cur ∧ cur.take (lim n).length = cel .u32 (lim n) ∧ (lim n).length ≤ cap ∧ cap ≤ maxLen
theorem take_sub {α : Type} {a b : List α} {n : Nat} (h : a.take n = b) : ∀ (j : Nat) (x : α), b[j]? = some x → a[j]? = some x := by
  intro j x hx
  rw [← h, List.getElem?_take] at hx
  split at hx
  · exact hx
  · cases hx
theorem WrN.isN {w : World} {base : Nat} {v : Value} {n : Nat} (h : WrN w base v n) : IsN w base w.heap.size v n := by
  rcases h with ⟨rfl, rfl⟩ | ⟨g, cap, cur, rfl, hb, hr, ht, h1, h2⟩
  · exact IsN.zero
  · exact ⟨_, cap, rfl, h1, h2, fun _ => ⟨g, 0, rfl, hb, hr.lt, fun j u hu => by rw [Nat.zero_add, hr.cell]; exact take_sub ht j u hu⟩⟩
theorem WrN.setFar {w : World} {base : Nat} {v : Value} {n : Nat} (h : WrN w base v n) {p : Addr} (hp : p.block < base) (u : Value) : WrN (w.setCell p u) base v n := by
  rcases h with h | ⟨g, cap, cur, rfl, hb, hr, ht, h1, h2⟩
  · exact .inl h
  · exact .inr ⟨g, cap, cur, rfl, hb, hr.far (by omega) u, ht, h1, h2⟩
theorem WrN.mono {w : World} {base base' : Nat} {v : Value} {n : Nat} (h : WrN w base v n) (hb : base' ≤ base) : WrN w base' v n := by
  rcases h with h | ⟨g, cap, cur, rfl, hb', hr, ht, h1, h2⟩
  · exact .inl h
  · exact .inr ⟨g, cap, cur, rfl, by omega, hr, ht, h1, h2⟩
theorem Own.wr {w : World} {base : Nat} {A : Option Addr} {len c m : Nat} {l : List Nat} (h : Own w base 94 (.slice A len c) (cel .u32 l)) (hm : m ≤ l.length) (ht : lim (val l) = l.take m) : WrN w base (.slice A m c) (val l) := by
  have hl : (lim (val l)).length = m := by rw [ht, List.length_take, Nat.min_eq_left hm]
  rcases h.2 with ⟨hv, hn⟩ | ⟨g, cap, cur, hv, hb, hh, hn, hcm, hcs, htake⟩
  · have hx : l = [] := cel_nil_iff.1 (List.eq_nil_of_length_eq_zero hn)
    subst hx
    simp only [Value.slice.injEq] at hv
    obtain ⟨rfl, _, rfl⟩ := hv
    simp at hm
    subst hm
    exact .inl ⟨rfl, rfl⟩
  · simp only [Value.slice.injEq] at hv
    obtain ⟨rfl, _, rfl⟩ := hv
    rw [zbq] at hn htake
    refine .inr ⟨g, c, cur.toList, by rw [hl], hb, ?_, ?_, by rw [hl]; omega, hcm⟩
    · unfold Row
      simpa using hh
    · rw [hl, ht, cel_take, ← htake, Nat.mul_one, List.take_take, Nat.min_eq_left hm]
set_option maxRecDepth 100000 in
set_option maxHeartbeats 1000000 in
theorem rminus_w {w : World} {va vb : Value} {x y : Nat} {lo hi lo' hi' : Nat} (ha : IsN w lo hi va x) (hb : IsN w lo' hi' vb y) (hi1 : hi ≤ w.heap.size) (hi2 : hi' ≤ w.heap.size) (hle : y ≤ x) (hx : (lim x).length ≤ 4294967296) :
    Calls Tryd.prog 83 #[va, vb] w fun e w' => (∃ v, e = .returned v ∧ WrN w' w.heap.size v (x - y)) ∧ Below w.heap.size w w' := by
  have hab := zau hle
  obtain ⟨A, c, rfl, _, _, hA⟩ := ha
  obtain ⟨B, d, rfl, _, _, hB⟩ := hb
  generalize hla : lim x = a at *
  generalize hlb : lim y = b at *
  have Hal : Hid (Lo a ∧ val a = x) := by rw [Hid, ← hla]; exact ⟨zbi x, zbg x⟩
  have Hbl : Hid (Lo b ∧ val b = y) := by rw [Hid, ← hlb]; exact ⟨zbi y, zbg y⟩
  have Hle := Lib.hid hle
  clear hla hlb hle
  generalize hBs : w.heap.size = bs at *
  have HB := Lib.hid hBs; clear hBs
  go_enter Tryd.func83, Tryd.ntmps83
  go_wp2
  go_loopw [5, 6, 7] (fun v bw i wr => ∃ (k : Nat) (L : List Nat) (q : Int), k ≤ a.length ∧ i = .int .i64 (k : Int) ∧ bw = .int .i64 q ∧ 0 ≤ q ∧ q ≤ 1 ∧ Own wr bs 94 v (cel .u32 L) ∧ Below bs w wr ∧
      Hid (L.length = k ∧ Lo L ∧ (val L : Int) = val (a.take k) - val (b.take k) + q * pw k)) (fun _ _ i _ => a.length - (intOf i).toNat)
  case atStart => exact ⟨0, [], 0, by omega, rfl, rfl, by omega, by omega, Own.nil _ _ _, Below.refl _ _, rfl, lo_nil, by simp [val]⟩
  case round =>
    obtain ⟨k, L, q, hk, rfl, rfl, hq0, hq1, hown, hbw, hrel⟩ := hrel
    have hBw : bs ≤ wr.heap.size := by have := hbw.size; have := HB.out; omega
    have hkc : k ≤ 4294967297 := by omega
    have hlen : Hid ((cel .u32 L).length ≤ 4294967297) := by rw [Hid, zbq, hrel.out.1]; omega
    rcases Nat.lt_or_ge k a.length with hka | hka
    · obtain ⟨ba, oa, rfl, _, _, hca⟩ := (hA.below hbw hi1) (zbo (j := k) hka)
      obtain ⟨x1, hx1, hx10, hx11, hx1c⟩ := zbl (j := k) Hal.out.1 hca hka
      clear hca
      rcases Nat.lt_or_ge k b.length with hkb | hkb
      · obtain ⟨bb, ob, rfl, _, _, hcb⟩ := (hB.below hbw hi2) (zbo (j := k) hkb)
        obtain ⟨y1, hy1, hy10, hy11, hy1c⟩ := zbl (j := k) Hbl.out.1 hcb hkb
        clear hcb
        rcases Int.lt_or_le (x1 - q - y1) 0 with hneg | hpos
        · go_wp2_with (at_builtin; refine zcl elN rfl _ _ rfl rfl hown rfl rfl (by have := hlen.out; omega) hBw ?_; intro v1 w1 hown1 hbw1 hz1)
          go_roundw
          case rel =>
            rw [zbv .u32 L (x1 - q - y1 + 1000000000).toNat _ (by omega)] at hown1
            exact ⟨k + 1, _, 1, by omega, by go_num, rfl, by omega, by omega, hown1, hbw.trans hbw1, by rw [List.length_append]; simp [hrel.out.1], zct hrel.out.2.1 (by omega), minus_step hrel.out.1 hx1.out hy1.out (by omega) (by omega) hrel.out.2.2⟩
          case measure => simp [intOf]; omega
        · go_wp2_with (at_builtin; refine zcl elN rfl _ _ rfl rfl hown rfl rfl (by have := hlen.out; omega) hBw ?_; intro v1 w1 hown1 hbw1 hz1)
          go_roundw
          case rel =>
            rw [zbv .u32 L (x1 - q - y1).toNat _ (by omega)] at hown1
            exact ⟨k + 1, _, 0, by omega, by go_num, rfl, by omega, by omega, hown1, hbw.trans hbw1, by rw [List.length_append]; simp [hrel.out.1], zct hrel.out.2.1 (by omega), minus_step hrel.out.1 hx1.out hy1.out (by omega) (by omega) hrel.out.2.2⟩
          case measure => simp [intOf]; omega
      · rcases Int.lt_or_le (x1 - q) 0 with hneg | hpos
        · go_wp2_with (at_builtin; refine zcl elN rfl _ _ rfl rfl hown rfl rfl (by have := hlen.out; omega) hBw ?_; intro v1 w1 hown1 hbw1 hz1)
          go_roundw
          case rel =>
            rw [zbv .u32 L (x1 - q + 1000000000).toNat _ (by omega)] at hown1
            exact ⟨k + 1, _, 1, by omega, by go_num, rfl, by omega, by omega, hown1, hbw.trans hbw1, by rw [List.length_append]; simp [hrel.out.1], zct hrel.out.2.1 (by omega), minus_step (y := 0) hrel.out.1 hx1.out (by rw [zce hkb]; rfl) (by omega) (by omega) hrel.out.2.2⟩
          case measure => simp [intOf]; omega
        · go_wp2_with (at_builtin; refine zcl elN rfl _ _ rfl rfl hown rfl rfl (by have := hlen.out; omega) hBw ?_; intro v1 w1 hown1 hbw1 hz1)
          go_roundw
          case rel =>
            rw [zbv .u32 L (x1 - q).toNat _ (by omega)] at hown1
            exact ⟨k + 1, _, 0, by omega, by go_num, rfl, by omega, by omega, hown1, hbw.trans hbw1, by rw [List.length_append]; simp [hrel.out.1], zct hrel.out.2.1 (by omega), minus_step (y := 0) hrel.out.1 hx1.out (by rw [zce hkb]; rfl) (by omega) (by omega) hrel.out.2.2⟩
          case measure => simp [intOf]; omega
    · obtain rfl : k = a.length := by omega
      have hv : Hid (val L = x - y) := by
        have h := sub_end (L := L) (b := b) (bw := q) hrel.out.1 rfl hab hrel.out.2.1 (by omega) (by rw [Hal.out.2, Hbl.out.2]; exact Hle.out) (by rw [zay (l := L) (Nat.le_of_eq hrel.out.1)]; exact hrel.out.2.2)
        rw [Hal.out.2, Hbl.out.2] at h
        exact h
      have hlo := Lib.hid hrel.out.2.1
      obtain ⟨A', c', hv', h1, h2, h3⟩ := hown.sl
      subst hv'
      rw [zbq] at h1
      have Hown := Lib.hid hown
      have H1 := Lib.hid h1
      have H2 := Lib.hid h2
      have H3 := Lib.hid h3
      clear hown hrel h1 h2 h3
      rw [zbq] at Hown ⊢
      go_wp2_with fail
      refine (rtrim_same A' c' L wr bs wr.heap.size hlo.out H1.out H2.out H3.out).mono ?_
      rintro e w2 ⟨⟨m, rfl, hm, ht⟩, rfl⟩
      have Ht := Lib.hid ht
      clear ht
      go_wp2_with fail
      go_ret
      refine ⟨⟨_, rfl, ?_⟩, hbw⟩
      rw [← hv.out]
      exact Own.wr Hown.out hm Ht.out
theorem rminus_n {w : World} {va vb : Value} {x y : Nat} {lo hi lo' hi' : Nat} (ha : IsN w lo hi va x) (hb : IsN w lo' hi' vb y) (hi1 : hi ≤ w.heap.size) (hi2 : hi' ≤ w.heap.size) (hle : y ≤ x) (hx : (lim x).length ≤ 4294967296) :
    Calls Tryd.prog 83 #[va, vb] w fun e w' => (∃ v, e = .returned v ∧ IsN w' w.heap.size w'.heap.size v (x - y)) ∧ Below w.heap.size w w' :=
  (rminus_w ha hb hi1 hi2 hle hx).mono fun e w' ⟨⟨v, he, hv⟩, hw⟩ => ⟨⟨v, he, hv.isN⟩, hw⟩
end Go.Proofs.YtblpaocignlpkaaDoor
