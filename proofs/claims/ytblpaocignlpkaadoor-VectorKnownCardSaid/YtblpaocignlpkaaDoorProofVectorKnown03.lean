/-
  The zaw of package vector's Echelon, where it succeeds.
-/
import Derived.Test.YtblpaocignlpkaaDoorVkn16
import Derived.Test.YtblpaocignlpkaaDoorProofVectorKnown02
import Derived.BigQuiet
import Derived.Test.YtblpaocignlpkaaDoorVkn17
import Derived.Test.YtblpaocignlpkaaDoorProofVectorKnown01
import Derived.Test.YtblpaocignlpkaaDoorVkn10
import Derived.Test.YtblpaocignlpkaaDoorVkn07
import Derived.Test.YtblpaocignlpkaaDoorVkn09
import Derived.Test.YtblpaocignlpkaaDoorVkn02
import Derived.Test.YtblpaocignlpkaaDoorVkn18
namespace Go.Proofs.YtblpaocignlpkaaDoor
open Go.RowKit
set_option linter.unusedVariables false
def zfn (s : RS) (m k : Nat) : List (List Rat) := (List.range k).map fun i => rowQ s.A s.piv.length s.d i 0 m
theorem formTo_snoc (s : RS) (m k : Nat) : zfn s m (k + 1) = zfn s m k ++ [rowQ s.A s.piv.length s.d k 0 m] := by unfold zfn; rw [List.range_succ, List.map_append]; rfl
theorem formTo_len (s : RS) (m k : Nat) : (zfn s m k).length = k := by simp [zfn]
def IsPv (w : World) (S : Nat → Prop) (v : Value) (l : List Nat) : Prop := ∃ A c, v = .slice A l.length c ∧ IsS 1 IsVal w S (.slice A l.length c) (l.map fun (k : Nat) => Value.int .i64 (k : Int))
theorem IsPv.stb : Stb IsPv := fun w w' S T v l ⟨A, c, e, h⟩ hs => ⟨A, c, e, (IsS.stb IsVal.stb).to h hs⟩
set_option maxRecDepth 100000 in
set_option maxHeartbeats 4000000 in
theorem echelon_l {w : World} {v : Value} {M : List (List Rat)} {n m : Nat} {s : RS} (h : IsM w (Old w) v (rawM M)) (hB : Bru w) (hn : M.length = n) (hrow : ∀ r ∈ M, r.length = m) (hs : ∀ r ∈ M, ∀ q ∈ r, Sz q 1024) (hn1 : 1 ≤ n) (hn9 : n ≤ 40) (hm1 : 1 ≤ m) (hm9 : m ≤ 40) (hf : chkM (rawM M) = 0)
    (hbnd : ∀ k, k ≤ m → BndS n m (runK n m (zcn M) k)) (hsr : s = runK n m (zcn M) m) (hfit : ∀ r ∈ zfn s m n, ∀ q ∈ r, Sz q 1024) :
    Calls Tryd.prog 25 #[v] w fun e w' => (∃ v' vp, e = .returned (.tuple #[v', vp, .int .i64 0]) ∧ IsM w' (Old w') v' (rawM (zfn s m n)) ∧ IsPv w' (Old w') vp s.piv) ∧ Below w.heap.size w w' := by
  have HM := Lib.hid h
  have HB := Lib.hid hB
  have Hn := Lib.hid hn
  have Hs := Lib.hid hs
  have Hrow := Lib.hid hrow
  have HF := Lib.hid hf
  have Hbnd := Lib.hid hbnd
  have Hsr := Lib.hid hsr
  have Hfit := Lib.hid hfit
  have hcol := Lib.hid (col_head hn hn1 hrow)
  obtain ⟨A, cA, rfl, _⟩ := zck h
  have eln : (rawM M).length = n := by rw [zch]; exact hn
  rw [eln] at HM
  rw [eln]
  clear h hB hn hs hrow hf hbnd hsr hfit eln
  go_enter Tryd.func25, Tryd.ntmps25
  go_wp2_with fail
  refine (form_l HM.out HB.out).mono ?_
  rw [HF.out]
  rintro e w1 ⟨rfl, hb1⟩
  have HB1 := Lib.hid hb1
  clear hb1
  go_wp2_with fail
  refine (zed (IsM.stb.next HM.out HB1.out)).mono ?_
  rw [hcol.out]
  rintro e w1' ⟨rfl, rfl⟩
  go_wp2_with fail
  have hc := reduced_l (IsM.stb.next HM.out HB1.out) (Bru.next HB.out HB1.out) Hn.out Hrow.out Hs.out hn1 hn9 hm1 (by omega) (width := m) (Nat.le_refl m) Hbnd.out
  rw [← Hsr.out] at hc
  refine hc.mono ?_
  clear hc
  rintro e w3 ⟨⟨v3, rfl, hg⟩, hb3⟩
  have HGr := Lib.hid hg
  obtain ⟨G, r0, c0, S', rb, cp, Pv, D, cv, cd, rfl, hGr⟩ := hg
  have HG := Lib.hid hGr
  have HW3 := Lib.hid (zaa HB1.out hb3)
  clear hb3 hGr
  go_wp2_with fail
  go_loopw [19, 2, 7] (fun ii ov _ wr => ∃ (i : Nat) (S : Nat → Prop), i ≤ n ∧ ii = .int .i64 (i : Int) ∧ Below w3.heap.size w3 wr ∧ Hid (OwnS 1 29 IsV wr w3.heap.size S ov (rawM (zfn s m i)))) (fun ii _ _ _ => n - (intOf ii).toNat)
  case atStart => exact ⟨0, fun _ => False, Nat.zero_le _, rfl, Below.refl _ _, OwnS.nil (fun b hb => hb.elim)⟩
  case round =>
    obtain ⟨i, S2, hi, rfl, hbw, hown⟩ := hrel
    have HWr := Lib.hid hbw
    rcases Nat.lt_or_ge i n with hlt | hge
    · have Hlt := Lib.hid hlt
      clear hbw
      go_wp2_with fail
      have hG := HG.out
      have hbs := Hbnd.out m (Nat.le_refl m)
      rw [← Hsr.out] at hbs
      have hlp : s.piv.length ≤ n := by rw [Hsr.out]; exact runK_len m
      refine (row_s (k0 := 0) (hG.mat.next HWr.out (fun b h => h) (fun b h => .inl h)) (hG.row.next HWr.out) (IsK.stb.to hG.num fun b hb => ⟨hb, fun o => HWr.out.cell (p := ⟨b, o, none⟩) (hG.mat.sS b hb)⟩) (Bru.next HB.out (zaa HW3.out HWr.out)) (by omega) (by omega) (by omega) hlt (by omega)
        (fun j hj => bnd_len hbs hlt hj) hbs.2.1 (Nat.pos_iff_ne_zero.1 hbs.2.2)).mono ?_
      rintro e w5 ⟨⟨v5, rfl, hv5⟩, hb5⟩
      rw [Nat.sub_zero] at hv5
      have Own5 := Lib.hid (OwnS.step IsV.stb (T := fun b => S2 b ∨ (wr.heap.size ≤ b ∧ b < w5.heap.size)) hown.out hb5 (fun b h => .inl h) (fun b h => h))
      have El5 : Hid (IsV w5 (fun b => S2 b ∨ (wr.heap.size ≤ b ∧ b < w5.heap.size)) v5 (rawV (rowQ s.A s.piv.length s.d i 0 m))) := IsV.stb.to hv5 (zay fun b h => .inr h)
      obtain ⟨P5, k5, rfl, _⟩ := zav hv5
      have HW5 := Lib.hid (zaa HWr.out hb5)
      have hbase : w3.heap.size ≤ w5.heap.size := HW5.out.size
      have hlt := Hlt.out
      clear hv5 hb5 hG hbs hlp
      go_wp2_with (at_builtin; refine zcg elV rfl _ _ rfl IsV.stb rfl rfl rfl Own5.out El5.out rfl (by intro u hu; simp [Value.cells] at hu; subst hu; rfl) (by rw [zch, formTo_len]; omega) hbase ?_; intro v7 w7 hown7 hb7 hz7)
      go_roundw
      case rel =>
        refine ⟨i + 1, fun b => S2 b ∨ (wr.heap.size ≤ b ∧ b < w5.heap.size), hlt, by go_num, HW5.out.trans hb7, ?_⟩
        rw [formTo_snoc, rawM_one]
        exact hown7
      case measure => simp [intOf]; omega
    · obtain rfl : i = n := by omega
      have hik : ¬ i < i := by omega
      have HI8 : Hid (IsM wr (Old wr) _ (rawM (zfn s m i))) := hown.out.isS IsV.stb (fun b h => by obtain ⟨_, _, _, _, h4⟩ := hown.out; exact (h4 b h).1) (fun b _ h => h)
      clear hbw
      go_wp2_with fail
      refine (zdv HI8.out).mono ?_
      rw [bndM_ok Hfit.out]
      rintro e w9 ⟨rfl, hb9⟩
      have HW9 := Lib.hid (zaa HWr.out hb9)
      have V9 := Lib.hid (IsM.stb.next HI8.out hb9)
      have R9 := Lib.hid (HG.out.row.next HW9.out)
      have P9 := Lib.hid ((IsS.stb IsVal.stb).to HG.out.piv (zam HW9.out))
      have g1 := R9.out.cell 1
      simp at g1
      obtain ⟨np, hnp⟩ : ∃ x, x = s.piv.length := ⟨_, rfl⟩
      rw [← hnp] at g1
      have Hnp := Lib.hid hnp
      obtain ⟨A8, c8, hA8, _⟩ := zck V9.out
      subst hA8
      clear hb9 hnp
      go_wp2_with fail
      go_quiet (fail)
      go_wp2_with fail
      go_ret3
      have hd := Dr.below (w := w9) (w' := w9.drewN nq) ⟨nq, rfl⟩ w9.heap.size
      exact ⟨⟨_, .slice Pv np cv, rfl, IsM.stb.next V9.out hd, ⟨Pv, cv, congrArg (fun z => Value.slice Pv z cv) Hnp.out, (IsS.stb IsVal.stb).to P9.out (zam hd)⟩⟩, zaa (zaa HW3.out HW9.out) hd⟩
def zfi (s : RS) (m f : Nat) : Nat → List Rat
  | 0 => (List.replicate m 0).set f 1
  | t + 1 => (zfi s m f t).set (s.piv.getD t 0) (-(atQ s.A s.piv.length s.d t f))
theorem kerTo_len (s : RS) (m f t : Nat) : (zfi s m f t).length = m := by
  induction t with
  | zero => rw [zfi, List.length_set, List.length_replicate]
  | succ t ih => rw [zfi, List.length_set, ih]
def kerQ (s : RS) (m : Nat) : Nat → List (List Rat)
  | 0 => []
  | k + 1 => if k ∈ s.piv then kerQ s m k else kerQ s m k ++ [zfi s m k s.piv.length]
theorem kerQ_in {s : RS} {m k : Nat} (h : k ∈ s.piv) : kerQ s m (k + 1) = kerQ s m k := by rw [kerQ, if_pos h]
theorem kerQ_out {s : RS} {m k : Nat} (h : k ∉ s.piv) : kerQ s m (k + 1) = kerQ s m k ++ [zfi s m k s.piv.length] := by rw [kerQ, if_neg h]
theorem kerQ_len (s : RS) (m k : Nat) : (kerQ s m k).length ≤ k := by
  induction k with
  | zero => exact Nat.le_refl _
  | succ k ih =>
    by_cases h : k ∈ s.piv
    · rw [kerQ_in h]; omega
    · rw [kerQ_out h, List.length_append]; simp; omega
theorem bool_info : (Tryd.prog.info? 4).map (fun i => (i.zero, i.size, i.bytes)) = some (some (.bool false), 1, 1) := by kernel_rfl
theorem boolZ : ElT Tryd.prog 111 4 (.bool false) 1 :=
  ⟨Tryd.underlying111, by obtain ⟨i, h1, h2, h3, h4⟩ := info_parts bool_info; exact ⟨i, h1, h2, h3, h4⟩, rfl⟩
def pivB (s : RS) (t c : Nat) : Value := .bool (decide (c ∈ s.piv.take t))
theorem pivB_next {s : RS} {t cc c : Nat} (h : s.piv[t]? = some cc) : updF (pivB s t) cc (.bool true) c = pivB s (t + 1) c := by
  unfold updF pivB
  rw [zce h]
  by_cases hc : c = cc
  · rw [if_pos hc, decide_eq_true (by rw [hc]; simp)]
  · rw [if_neg hc]
    congr 1
    rw [decide_eq_decide]
    simp [hc]
set_option maxRecDepth 100000 in
set_option maxHeartbeats 8000000 in
theorem kernel_l {w : World} {v : Value} {M : List (List Rat)} {n m : Nat} {s : RS} (h : IsM w (Old w) v (rawM M)) (hB : Bru w) (hn : M.length = n) (hrow : ∀ r ∈ M, r.length = m) (hs : ∀ r ∈ M, ∀ q ∈ r, Sz q 1024) (hn1 : 1 ≤ n) (hn9 : n ≤ 40) (hm1 : 1 ≤ m) (hm9 : m ≤ 40) (hf : chkM (rawM M) = 0)
    (hbnd : ∀ k, k ≤ m → BndS n m (runK n m (zcn M) k)) (hsr : s = runK n m (zcn M) m) (hat : ∀ t f, t < s.piv.length → f < m → Sz (atQ s.A s.piv.length s.d t f) 1024) (hfit : ∀ r ∈ kerQ s m m, ∀ q ∈ r, Sz q 1024) :
    Calls Tryd.prog 26 #[v] w fun e w' => (∃ v', e = .returned (.tuple #[v', .int .i64 0]) ∧ IsM w' (Old w') v' (rawM (kerQ s m m))) ∧ Below w.heap.size w w' := by
  have HM := Lib.hid h
  have HB := Lib.hid hB
  have Hn := Lib.hid hn
  have Hs := Lib.hid hs
  have Hrow := Lib.hid hrow
  have HF := Lib.hid hf
  have Hbnd := Lib.hid hbnd
  have Hsr := Lib.hid hsr
  have Hat := Lib.hid hat
  have Hfit := Lib.hid hfit
  have hcol := Lib.hid (col_head hn hn1 hrow)
  have hcm : ∀ t cc, s.piv[t]? = some cc → cc < m := fun t cc h => by
    have h := List.mem_of_getElem? h
    rw [hsr] at h
    exact runK_piv m cc h
  have Hcm := Lib.hid hcm
  obtain ⟨A, cA, rfl, _⟩ := zck h
  have eln : (rawM M).length = n := by rw [zch]; exact hn
  rw [eln] at HM
  rw [eln]
  clear h hB hn hs hrow hf hbnd hsr hfit eln hat hcm
  go_enter Tryd.func26, Tryd.ntmps26
  go_wp2_with fail
  refine (form_l HM.out HB.out).mono ?_
  rw [HF.out]
  rintro e w1 ⟨rfl, hb1⟩
  have HB1 := Lib.hid hb1
  clear hb1
  go_wp2_with fail
  refine (zed (IsM.stb.next HM.out HB1.out)).mono ?_
  rw [hcol.out]
  rintro e w1' ⟨rfl, rfl⟩
  go_wp2_with fail
  have hc := reduced_l (IsM.stb.next HM.out HB1.out) (Bru.next HB.out HB1.out) Hn.out Hrow.out Hs.out hn1 hn9 hm1 (by omega) (width := m) (Nat.le_refl m) Hbnd.out
  rw [← Hsr.out] at hc
  refine hc.mono ?_
  clear hc
  rintro e w3 ⟨⟨v3, rfl, hg⟩, hb3⟩
  obtain ⟨G, r0, c0, S', rb, cp, Pv, D, cv, cd, rfl, hGr⟩ := hg
  have HG := Lib.hid hGr
  have HW3 := Lib.hid (zaa HB1.out hb3)
  obtain ⟨np, hnp⟩ : ∃ x, x = s.piv.length := ⟨_, rfl⟩
  have Hnp := Lib.hid hnp
  have hlp : np ≤ n := by rw [hnp, Hsr.out]; exact runK_len m
  clear hb3 hGr hnp
  go_wp2_with (at_make; refine wp_makeZ boolZ rfl rfl _ _ rfl m rfl rfl rfl rfl (by omega) ?_; intro w4 hr4 hb4 hz4; have g1 : w4.cell? ⟨G, 1, none⟩ = some (.slice Pv np cv) := (by rw [Hnp.out]; exact (HG.out.row.next hb4).cell 1))
  obtain ⟨PB, hPB⟩ : ∃ b, b = w3.heap.size := ⟨_, rfl⟩
  rw [← hPB] at hr4 ⊢
  have HB4 := Lib.hid hb4
  have HPB := Lib.hid hPB
  have R4 : Hid (Row w4 PB 4 ((List.range m).map (pivB s 0))) := by
    rw [Hid, show (List.range m).map (pivB s 0) = List.replicate m (.bool false) by
      rw [show pivB s 0 = fun _ => Value.bool false from funext fun c => by unfold pivB; rw [List.take_zero, decide_eq_false (by simp)], List.map_const', List.length_range]]
    exact hr4
  clear hr4 hb4 hz4 hPB g1
  go_loopw [32, 9] (fun ii _ wr => ∃ t : Nat, t ≤ np ∧ ii = .int .i64 (t : Int) ∧ Below w3.heap.size w3 wr ∧ Hid (Row wr PB 4 ((List.range m).map (pivB s t)))) (fun ii _ _ => np - (intOf ii).toNat)
  case atStart => exact ⟨0, Nat.zero_le _, rfl, HB4.out, R4.out⟩
  case round =>
    obtain ⟨t, ht, rfl, hbt, hR⟩ := hrel
    have HBt := Lib.hid hbt
    have HR := Lib.hid hR.out
    rcases Nat.lt_or_ge t np with hlt | hge
    · obtain ⟨cc, hcc⟩ : ∃ cc, s.piv[t]? = some cc := ⟨_, List.getElem?_eq_getElem (by rw [← Hnp.out]; exact hlt)⟩
      have hcm := Hcm.out t cc hcc
      have hpv := (IsS.stb IsVal.stb).to HG.out.piv (zam hbt)
      rw [← Hnp.out] at hpv
      obtain ⟨bp, op, ev, rfl, _, hRe, _, hcell⟩ := IsS.get hpv (by omega) (j := t) (x := .int .i64 (cc : Int)) (by rw [List.getElem?_map, hcc]; rfl)
      have hRe : ev = .int .i64 (cc : Int) := hRe
      subst hRe
      have p0 := hcell 0 _ rfl
      rw [Nat.mul_one, Nat.add_zero] at p0
      have q0 : wr.cell? ⟨PB, cc, none⟩ = some (pivB s t cc) := (HR.out.cell cc).trans (by simp [hcm])
      have f0 : wr.frozen? ⟨PB, cc, none⟩ = false := HR.out.frozen cc
      have Hcc := Lib.hid hcc
      have hc0 : (0 : Int) ≤ (cc : Int) := by omega
      have hc1 : (cc : Int) < (m : Int) := by omega
      have ht0 : (0 : Int) ≤ (t : Int) := by omega
      have ht1 : (t : Int) < (np : Int) := by omega
      have Hlt := Lib.hid hlt
      have Hcm1 := Lib.hid hcm
      clear hcc hpv hcell hbt hR hlt hcm
      unfold pivB at q0
      go_wp2_with fail
      clear p0 q0 f0
      go_roundw
      case rel =>
        refine ⟨t + 1, Hlt.out, by go_num, HBt.out.setCell (p := ⟨PB, cc, none⟩) (by show w3.heap.size ≤ PB; rw [HPB.out]; exact Nat.le_refl _) _, ?_⟩
        have hset := HR.out.set_ cc (.bool true)
        rw [← range_upd _ _ Hcm1.out, List.map_congr_left (g := pivB s (t + 1)) fun c _ => pivB_next Hcc.out] at hset
        exact hset
      case measure => have := Hlt.out; simp [intOf]; omega
    · obtain rfl : t = np := by omega
      obtain ⟨w5, hw5⟩ : ∃ x, x = wr := ⟨_, rfl⟩
      have hB5 := Lib.hid HBt.out
      have hR5 := Lib.hid HR.out
      rw [← hw5] at hB5 hR5
      have Htake : Hid (s.piv.take t = s.piv) := List.take_of_length_le (by rw [← Hnp.out]; exact Nat.le_refl _)
      have htt : ¬ t < t := by omega
      clear hbt hR HR HBt R4 HB4
      go_wp2_with fail
      rw [← hw5]
      clear hw5
      go_loopw [41, 10, 11, 12, 13, 14] (fun ii ov _ _ _ _ wr => ∃ (k : Nat) (S : Nat → Prop), k ≤ m ∧ ii = .int .i64 (k : Int) ∧ Below w5.heap.size w5 wr ∧ Hid (OwnS 1 29 IsV wr w5.heap.size S ov (rawM (kerQ s m k)))) (fun ii _ _ _ _ _ _ => m - (intOf ii).toNat)
      case atStart => exact ⟨0, fun _ => False, Nat.zero_le _, rfl, Below.refl _ _, OwnS.nil (fun b hb => hb.elim)⟩
      case round =>
        obtain ⟨wo, rfl⟩ : ∃ x, x = wr := ⟨_, rfl⟩
        obtain ⟨k, S, hk, rfl, hbw, hown⟩ := hrel
        have HWo := Lib.hid hbw
        have Own := Lib.hid hown.out
        have HWw := Lib.hid (zaa HW3.out (zaa hB5.out hbw))
        have HGo := Lib.hid (zaa hB5.out hbw)
        rcases Nat.lt_or_ge k m with hkm | hkm
        · have Hkm := Lib.hid hkm
          have q0 : wo.cell? ⟨PB, k, none⟩ = some (pivB s t k) := ((hR5.out.next hbw).cell k).trans (by simp [hkm])
          unfold pivB at q0
          rw [Htake.out] at q0
          have hk0 : (0 : Int) ≤ (k : Int) := by omega
          have hk1 : (k : Int) < (m : Int) := by omega
          clear hbw hown
          by_cases hin : k ∈ s.piv
          · rw [decide_eq_true hin] at q0
            have Hin := Lib.hid hin
            clear hin
            go_wp2_with fail
            clear q0
            go_roundw
            case rel => exact ⟨k + 1, S, Hkm.out, by go_num, HWo.out, by rw [Hid, kerQ_in Hin.out]; exact Own.out⟩
            case measure => have := Hkm.out; simp [intOf]; omega
          · rw [decide_eq_false hin] at q0
            have Hin := Lib.hid hin
            clear hin
            go_wp2_with (at_make; refine zci elR rfl _ _ rfl IsR m rfl rfl rfl (by omega) (base := wo.heap.size) (S := fun _ => False) (Nat.le_refl _) (fun b h => h.elim) ?_; intro v6 w6 hown6 hb6 hz6)
            have O6 := Lib.hid hown6
            have HB6 := Lib.hid hb6
            clear hown6 hb6 hz6 q0 hkm
            go_loopw [51, 12] (fun jj ov wr => ∃ (j : Nat) (S2 : Nat → Prop), j ≤ m ∧ jj = .int .i64 (j : Int) ∧ Below wo.heap.size wo wr ∧ Hid (OwnS 3 50 IsR wr wo.heap.size S2 ov (rawV (List.replicate j 0))) ∧ Hid (∀ b, S2 b → wo.heap.size ≤ b)) (fun jj _ _ => m - (intOf jj).toNat)
            case atStart => exact ⟨0, fun _ => False, Nat.zero_le _, rfl, HB6.out, O6.out, fun b hb => hb.elim⟩
            case round =>
              obtain ⟨j, S2, hj, rfl, hbw, hown, hS2⟩ := hrel
              have HWr := Lib.hid hbw
              rcases Nat.lt_or_ge j m with hlt | hge
              · clear hbw
                go_wp2_with fail
                refine (zero_q _).mono ?_
                rintro e w7 ⟨⟨v7, rfl, hv7⟩, hb7⟩
                obtain ⟨s7, P7, k7, O7, l7, rfl, _, _, _⟩ := zai hv7
                obtain ⟨z1, hz1⟩ : ∃ z, z = (lim (0 : Rat).num.natAbs).length := ⟨_, rfl⟩
                obtain ⟨z2, hz2⟩ : ∃ z, z = (lim (0 : Rat).den).length := ⟨_, rfl⟩
                rw [← hz1, ← hz2] at hv7 ⊢
                have Own7 := Lib.hid (OwnS.step IsR.stb (T := fun b => S2 b ∨ (wr.heap.size ≤ b ∧ b < w7.heap.size)) hown.out hb7 (fun b h => .inl h) (fun b h => h))
                have El7 : Hid (IsR w7 (fun b => S2 b ∨ (wr.heap.size ≤ b ∧ b < w7.heap.size)) (.agg #[.bool s7, .slice P7 z1 k7, .slice O7 z2 l7]) (raw 0)) := IsQ.stb.to hv7 (zay fun b h => .inr h)
                have HW7 := Lib.hid (zaa HWr.out hb7)
                have hbase : wo.heap.size ≤ w7.heap.size := HW7.out.size
                clear hv7 hb7 hz1 hz2
                go_wp2_with (at_builtin; refine zcg elR rfl _ _ rfl IsR.stb rfl rfl rfl Own7.out El7.out rfl (by intro u hu; simp [Value.cells] at hu; rcases hu with rfl | rfl | rfl <;> rfl) (by rw [zbk, List.length_replicate]; omega) hbase ?_; intro v8 w8 hown8 hb8 hz8)
                go_roundw
                case rel =>
                  refine ⟨j + 1, fun b => S2 b ∨ (wr.heap.size ≤ b ∧ b < w7.heap.size), hlt, by go_num, HW7.out.trans hb8, ?_, fun b hb => by rcases hb with hb | hb; exact hS2.out b hb; exact Nat.le_trans HWr.out.size hb.1⟩
                  rw [List.replicate_succ', rawV_app]
                  exact hown8
                case measure => simp [intOf]; omega
              · obtain rfl : j = m := by omega
                have hjj : ¬ j < j := by omega
                have OX := Lib.hid hown.out
                have hlr : (rawV (List.replicate j (0 : Rat))).length = j := by rw [zbk, List.length_replicate]
                obtain ⟨g, c15, cur15, es15, h15, hg15, hcur15, _, _, _⟩ := OX.out.shape (fun e => by rw [e] at hlr; simp at hlr; omega)
                rw [hlr] at h15
                subst h15
                have hgw : g < wr.heap.size := (Array.getElem?_eq_some_iff.1 hcur15).1
                have Hg15 := Lib.hid hg15
                have HF6 : Hid (∃ cu, wr.heap[g]? = some (.cells cu 50 (0, 0))) := ⟨_, hcur15⟩
                clear hbw hown hcur15 hg15
                go_wp2_with fail
                refine (one_n _).mono ?_
                rintro e w7 ⟨⟨v7, rfl, hv7⟩, hb7⟩
                have VO := Lib.hid (zak (zfs hv7))
                have HW7 := Lib.hid hb7
                clear hv7 hb7
                go_wp2_with fail
                refine (whole_f VO.out (by rw [zef]; decide)).mono ?_
                rintro e w8 ⟨⟨v8, rfl, hv8⟩, hb8⟩
                obtain ⟨s8, P8, k8, O8, l8, rfl, _, _, _⟩ := zai hv8
                obtain ⟨z1, hz1⟩ : ∃ z, z = (lim (((1 : Nat) : Int) : Rat).num.natAbs).length := ⟨_, rfl⟩
                obtain ⟨z2, hz2⟩ : ∃ z, z = (lim (((1 : Nat) : Int) : Rat).den).length := ⟨_, rfl⟩
                rw [← hz1, ← hz2] at hv8 ⊢
                have HW8 := Lib.hid (zaa HW7.out hb8)
                have hkj := Hkm.out
                have hT := OwnS.step IsR.stb (T := fun b => S2 b ∨ (wr.heap.size ≤ b ∧ b < w8.heap.size)) OX.out HW8.out (fun b h => .inl h) (fun b h => h)
                have hE : IsR w8 (fun b => S2 b ∨ (wr.heap.size ≤ b ∧ b < w8.heap.size)) (.agg #[.bool s8, .slice P8 z1 k8, .slice O8 z2 l8]) (raw (((1 : Nat) : Int) : Rat)) := IsQ.stb.to hv8 (zay fun b h => .inr ⟨Nat.le_trans HW7.out.size h.1, h.2⟩)
                obtain ⟨yy, hyy⟩ : ∃ yy, (rawV (List.replicate j (0 : Rat)))[k]? = some yy := ⟨_, List.getElem?_eq_getElem (by rw [hlr]; exact hkj)⟩
                obtain ⟨gb, gO, ev2, hA2, _, hR2, _, hcell2⟩ := IsS.get (hT.isS IsR.stb (T := fun _ => True) (fun b h => trivial) (fun b _ h => trivial)) (by omega) hyy
                cases hA2
                obtain ⟨a1, a2, a3, a4, rfl, _, _⟩ := hR2
                have d0 := hcell2 0 _ rfl
                have d1 := hcell2 1 _ rfl
                have d2 := hcell2 2 _ rfl
                rw [Nat.zero_add] at d0 d1 d2
                rw [Nat.add_zero] at d0
                have hf : ∀ o, w8.frozen? ⟨g, o, none⟩ = false := fun o => by
                  obtain ⟨cu, hcu⟩ := HF6.out
                  simp [World.frozen?, (HW8.out.block g hgw).trans hcu]
                have f0 := hf (k * 3)
                have f1 := hf (k * 3 + 1)
                have f2 := hf (k * 3 + 2)
                have OS : Hid (OwnS 3 50 IsR (putE w8 g k (.bool s8) (.slice P8 z1 k8) (.slice O8 z2 l8)) wo.heap.size (fun b => S2 b ∨ (wr.heap.size ≤ b ∧ b < w8.heap.size)) (.slice (some ⟨g, 0, none⟩) j c15) (rawV (zfi s j k 0))) := by
                  have h := OwnS.set3 IsR.stb (g := g) (cap := c15) (l := rawV (List.replicate j (0 : Rat))) (by rw [hlr]; exact hT) (j := k) (by rw [hlr]; exact hkj) hE
                  rw [List.length_set, hlr] at h
                  have e : rawV (zfi s j k 0) = (rawV (List.replicate j (0 : Rat))).set k (raw (((1 : Nat) : Int) : Rat)) := by
                    rw [zfi, rawV, List.map_set]
                    rfl
                  rw [Hid, e]
                  exact h
                obtain ⟨w9, hw9⟩ : ∃ x, x = ((w8.setCell ⟨g, k * 3, none⟩ (.bool s8)).setCell ⟨g, k * 3 + 1, none⟩ (.slice P8 z1 k8)).setCell ⟨g, k * 3 + 2, none⟩ (.slice O8 z2 l8) := ⟨_, rfl⟩
                have HB9 : Hid (Below wo.heap.size wo w9) := by
                  have h1 := zaa HWr.out HW8.out
                  rw [Hid, hw9]
                  exact h1.grown (zea (zaf _ _)) h1.size (fun x e => by cases e; exact Hg15.out)
                have HG9 := Lib.hid (zaa HGo.out HB9.out)
                have g1 := (HG.out.row.next HG9.out).cell 1
                simp at g1
                rw [← Hnp.out] at g1
                have OS9 : Hid (OwnS 3 50 IsR w9 wo.heap.size (fun b => S2 b ∨ (wr.heap.size ≤ b ∧ b < w8.heap.size)) (.slice (some ⟨g, 0, none⟩) j c15) (rawV (zfi s j k 0))) := by rw [Hid, hw9]; exact OS.out
                have cr := zbn
                clear hT hE hyy hcell2 hf hv8 hb8 hz1 hz2 OS
                rw [hw9] at g1
                go_wp2_with fail
                rw [← hw9]
                clear g1 d0 d1 d2 f0 f1 f2 hw9
                go_loopw [68, 13, 14] (fun ii _ _ wr => ∃ (u : Nat) (S3 : Nat → Prop), u ≤ t ∧ ii = .int .i64 (u : Int) ∧ Below wo.heap.size wo wr ∧ Hid (OwnS 3 50 IsR wr wo.heap.size S3 (.slice (some ⟨g, 0, none⟩) j c15) (rawV (zfi s j k u))) ∧ Hid (∀ b, S3 b → wo.heap.size ≤ b)) (fun ii _ _ _ => t - (intOf ii).toNat)
                case atStart => exact ⟨0, _, Nat.zero_le _, rfl, HB9.out, OS9.out, fun b hb => by rcases hb with hb | hb; exact hS2.out b hb; exact Nat.le_trans HWr.out.size hb.1⟩
                case round =>
                  obtain ⟨u, S3, hu, rfl, hbu, hownt, hS3⟩ := hrel
                  have HBu := Lib.hid hbu
                  have HGu := Lib.hid (zaa HGo.out hbu)
                  have hG := HG.out
                  have hsl : (rawV (zfi s j k u)).length = j := by rw [zbk, kerTo_len]
                  rcases Nat.lt_or_ge u t with hlt | hge
                  · obtain ⟨cc, hcc⟩ : ∃ cc, s.piv[u]? = some cc := ⟨_, List.getElem?_eq_getElem (by rw [← Hnp.out]; exact hlt)⟩
                    have hcm := Hcm.out u cc hcc
                    have hpv := (IsS.stb IsVal.stb).to hG.piv (zam HGu.out)
                    rw [← Hnp.out] at hpv
                    obtain ⟨bp, op, ev, rfl, _, hRe, _, hcell⟩ := IsS.get hpv (by omega) (j := u) (x := .int .i64 (cc : Int)) (by rw [List.getElem?_map, hcc]; rfl)
                    have hRe : ev = .int .i64 (cc : Int) := hRe
                    subst hRe
                    have p0 := hcell 0 _ rfl
                    rw [Nat.mul_one, Nat.add_zero] at p0
                    obtain ⟨b6, c6, cur6, es6, h6, hb6, hcur6, _, _, _, _, h6a, _, _⟩ := hownt.out.shape (fun e => by rw [e] at hsl; simp at hsl; omega)
                    rw [hsl] at h6
                    simp only [Value.slice.injEq, Option.some.injEq, Addr.mk.injEq, and_true, true_and] at h6
                    obtain ⟨rfl, rfl⟩ := h6
                    have hbs := Hbnd.out j (Nat.le_refl j)
                    rw [← Hsr.out] at hbs
                    have Hcc := Lib.hid hcc
                    have Hg6 : Hid (g < wr.heap.size ∧ wo.heap.size ≤ g) := ⟨(Array.getElem?_eq_some_iff.1 hcur6).1, hb6⟩
                    have HF6 : Hid (∃ cu, wr.heap[g]? = some (.cells cu 50 (0, 0))) := ⟨_, hcur6⟩
                    have hc0 : (0 : Int) ≤ (cc : Int) := by omega
                    have hc1 : (cc : Int) < (j : Int) := by omega
                    have hu0 : (0 : Int) ≤ (u : Int) := by omega
                    have hu1 : (u : Int) < (t : Int) := by omega
                    have hxk : u < n := by omega
                    have hlp2 : s.piv.length ≤ 100 := by rw [← Hnp.out]; omega
                    have hat := at_s (hG.mat.next HGu.out (fun b h => h) (fun b h => .inl h)) (hG.row.next HGu.out) (IsK.stb.to hG.num fun b hb => ⟨hb, fun o => HGu.out.cell (p := ⟨b, o, none⟩) (hG.mat.sS b hb)⟩) (Bru.next HB.out (zaa HW3.out HGu.out)) (by omega) (by omega) hlp2 hxk hkj (bnd_len hbs hxk hkj) hbs.2.1 (Nat.pos_iff_ne_zero.1 hbs.2.2)
                    have hsz := Hat.out u k (by rw [← Hnp.out]; exact hlt) hkj
                    rw [← Hnp.out] at hat hsz
                    obtain ⟨q0, hq0⟩ : ∃ z, z = atQ s.A t s.d u k := ⟨_, rfl⟩
                    rw [← hq0] at hat hsz
                    have Hq0 := Lib.hid hq0
                    have Hsz := Lib.hid hsz
                    have Hatt := Lib.hid hat
                    have Hlt := Lib.hid hlt
                    have Hcm1 := Lib.hid hcm
                    clear hcc hpv hcell hcur6 hb6 hbs hat hsz hq0 h6a hbu hG hlt
                    go_wp2_with fail
                    refine Hatt.out.mono ?_
                    rintro e w7 ⟨⟨v7, rfl, hv7⟩, hb7⟩
                    have Q7 := Lib.hid (IsQ.stb.old hv7)
                    have HW7 := Lib.hid hb7
                    obtain ⟨s7, P7, k7, O7, l7, rfl, _, _, _⟩ := zai hv7
                    clear hv7 hb7 p0
                    go_wp2_with fail
                    refine (negative_q Q7.out (Hsz.out.le (by omega)) (p := -q0) rfl).mono ?_
                    rintro e w8 ⟨⟨v8, rfl, hv8⟩, hb8⟩
                    obtain ⟨qq, hqq⟩ : ∃ z, z = -q0 := ⟨_, rfl⟩
                    rw [← hqq] at hv8
                    obtain ⟨s8, P8, k8, O8, l8, rfl, _, _, _⟩ := zai hv8
                    obtain ⟨z1, hz1⟩ : ∃ z, z = (lim qq.num.natAbs).length := ⟨_, rfl⟩
                    obtain ⟨z2, hz2⟩ : ∃ z, z = (lim qq.den).length := ⟨_, rfl⟩
                    rw [← hz1, ← hz2] at hv8 ⊢
                    have HW8 := Lib.hid (zaa HW7.out hb8)
                    have hT := OwnS.step IsR.stb (T := fun b => S3 b ∨ (wr.heap.size ≤ b ∧ b < w8.heap.size)) hownt.out HW8.out (fun b h => .inl h) (fun b h => h)
                    have hE : IsR w8 (fun b => S3 b ∨ (wr.heap.size ≤ b ∧ b < w8.heap.size)) (.agg #[.bool s8, .slice P8 z1 k8, .slice O8 z2 l8]) (raw qq) := IsQ.stb.to hv8 (zay fun b h => .inr ⟨Nat.le_trans HW7.out.size h.1, h.2⟩)
                    obtain ⟨yy, hyy⟩ : ∃ yy, (rawV (zfi s j k u))[cc]? = some yy := ⟨_, List.getElem?_eq_getElem (by rw [hsl]; exact hcm)⟩
                    obtain ⟨gb, gO, ev2, hA2, _, hR2, _, hcell2⟩ := IsS.get (hT.isS IsR.stb (T := fun _ => True) (fun b h => trivial) (fun b _ h => trivial)) (by omega) hyy
                    cases hA2
                    obtain ⟨a1, a2, a3, a4, rfl, _, _⟩ := hR2
                    have d0 := hcell2 0 _ rfl
                    have d1 := hcell2 1 _ rfl
                    have d2 := hcell2 2 _ rfl
                    rw [Nat.zero_add] at d0 d1 d2
                    rw [Nat.add_zero] at d0
                    have hf : ∀ o, w8.frozen? ⟨g, o, none⟩ = false := fun o => by
                      obtain ⟨cu, hcu⟩ := HF6.out
                      simp [World.frozen?, (HW8.out.block g Hg6.out.1).trans hcu]
                    have f0 := hf (cc * 3)
                    have f1 := hf (cc * 3 + 1)
                    have f2 := hf (cc * 3 + 2)
                    have OS : Hid (OwnS 3 50 IsR (putE w8 g cc (.bool s8) (.slice P8 z1 k8) (.slice O8 z2 l8)) wo.heap.size (fun b => S3 b ∨ (wr.heap.size ≤ b ∧ b < w8.heap.size)) (.slice (some ⟨g, 0, none⟩) j c15) (rawV (zfi s j k (u + 1)))) := by
                      have h := OwnS.set3 IsR.stb (g := g) (cap := c15) (l := rawV (zfi s j k u)) (by rw [hsl]; exact hT) (j := cc) (by rw [hsl]; exact hcm) hE
                      rw [List.length_set, hsl] at h
                      have e : rawV (zfi s j k (u + 1)) = (rawV (zfi s j k u)).set cc (raw qq) := by
                        rw [zfi, rawV, List.map_set, List.getD_eq_getElem?_getD, Hcc.out, Option.getD_some, ← Hnp.out, ← Hq0.out, ← hqq]
                        rfl
                      rw [Hid, e]
                      exact h
                    have HB7 : Hid (Below wo.heap.size wo (putE w8 g cc (.bool s8) (.slice P8 z1 k8) (.slice O8 z2 l8))) := by
                      have h1 := zaa HBu.out HW8.out
                      exact h1.grown (zea (zaf _ _)) h1.size (fun x e => by cases e; exact Hg6.out.2)
                    have cr := zbn
                    have hlt := Hlt.out
                    clear hT hE hyy hcell2 hf hv8 hb8 hqq hz1 hz2
                    go_wp2_with fail
                    clear d0 d1 d2 f0 f1 f2
                    go_roundw
                    case rel => exact ⟨u + 1, _, hlt, by go_num, HB7.out, OS.out, fun b hb => by rcases hb with hb | hb; exact hS3.out b hb; exact Nat.le_trans HBu.out.size hb.1⟩
                    case measure => simp [intOf]; omega
                  · obtain rfl : u = t := by omega
                    have huu : ¬ u < u := by omega
                    have hown1 := OwnS.step IsV.stb (T := fun b => S b ∨ (wo.heap.size ≤ b ∧ b < wr.heap.size)) Own.out HBu.out (fun b h => .inl h) (fun b h => h)
                    have hel1 := OwnS.isS IsR.stb (T := fun b => S b ∨ (wo.heap.size ≤ b ∧ b < wr.heap.size)) hownt.out (fun b hb => .inr ⟨hS3.out b hb, by obtain ⟨_, _, _, _, h4⟩ := hownt.out; exact (h4 b hb).1⟩) (fun b h1 h2 => .inr ⟨h1, h2⟩)
                    have hbase : w5.heap.size ≤ wr.heap.size := (zaa HWo.out HBu.out).size
                    have HB9' := Lib.hid (zaa HWo.out HBu.out)
                    have hkl := kerQ_len s j k
                    clear hbu hG
                    go_wp2_with (at_builtin; refine zcg elV rfl _ _ rfl IsV.stb rfl rfl rfl hown1 hel1 rfl (by intro u hu; simp [Value.cells] at hu; subst hu; rfl) (by rw [zch]; omega) hbase ?_; intro v9 w9 hown9 hb9 hz9)
                    go_roundw
                    case rel =>
                      refine ⟨k + 1, fun b => S b ∨ (wo.heap.size ≤ b ∧ b < wr.heap.size), Hkm.out, by go_num, HB9'.out.trans hb9, ?_⟩
                      rw [Hid, kerQ_out Hin.out, ← Hnp.out, rawM_one]
                      exact hown9
                    case measure => have := Hkm.out; simp [intOf]; omega
        · obtain rfl : k = m := by omega
          have hkk : ¬ k < k := by omega
          have HI8 : Hid (IsM wo (Old wo) _ (rawM (kerQ s k k))) := Own.out.isS IsV.stb (fun b h => by obtain ⟨_, _, _, _, h4⟩ := Own.out; exact (h4 b h).1) (fun b _ h => h)
          clear hbw hown
          go_wp2_with fail
          refine (zdv HI8.out).mono ?_
          rw [bndM_ok Hfit.out]
          rintro e w9 ⟨rfl, hb9⟩
          have V9 := Lib.hid (IsM.stb.next HI8.out hb9)
          have HW9 := Lib.hid (zaa HWw.out hb9)
          clear hb9
          go_wp2_with fail
          go_ret2
          exact ⟨⟨_, rfl, V9.out⟩, HW9.out⟩
end Go.Proofs.YtblpaocignlpkaaDoor
namespace Go.Proofs.YtblpaocignlpkaaDoor
set_option linter.unusedVariables false
end Go.Proofs.YtblpaocignlpkaaDoor
namespace Go.Proofs.YtblpaocignlpkaaDoor
open Go.RowKit
set_option linter.unusedVariables false
theorem getD_some {l : List Rat} {j : Nat} {q : Rat} (h : l[j]? = some q) : l.getD j 0 = q := by rw [List.getD_eq_getElem?_getD, h]; rfl
def IsI (w : World) (S : Nat → Prop) (v : Value) (n : Nat) : Prop := v = .int .i64 (n : Int)
theorem IsI.stb : Stb IsI := fun _ _ _ _ _ _ h _ => h
abbrev IsIs : World → (Nat → Prop) → Value → List Nat → Prop := IsS 1 IsI
theorem IsIs.stb : Stb IsIs := IsS.stb IsI.stb
set_option maxHeartbeats 2000000 in
theorem alike_i {w : World} {va vb : Value} {a b : List Nat} (ha : IsIs w (Old w) va a) (hb : IsIs w (Old w) vb b) :
    Calls Tryd.prog 48 #[va, vb] w fun e w' => e = .returned (.bool (decide (a = b))) ∧ Below w.heap.size w w' := by
  have HA := Lib.hid ha
  have HB := Lib.hid hb
  obtain ⟨A, cA, _, rfl, lA, mA, _⟩ := ha
  obtain ⟨B, cB, _, rfl, lB, mB, _⟩ := hb
  unfold maxLen at mA mB
  obtain ⟨la, hla⟩ : ∃ n, n = a.length := ⟨_, rfl⟩
  obtain ⟨lb, hlb⟩ : ∃ n, n = b.length := ⟨_, rfl⟩
  rw [← hla] at HA lA ⊢
  rw [← hlb] at HB lB ⊢
  have Hla := Lib.hid hla
  have Hlb := Lib.hid hlb
  clear hla hlb
  have hA1 : la ≤ 9223372036854775807 := by omega
  have hB1 : lb ≤ 9223372036854775807 := by omega
  clear lA mA lB mB
  by_cases hl : la = lb
  case neg =>
    have b1 : ((la : Int) != (lb : Int)) = true := bne_iff_ne.2 (by omega)
    have Hr : Hid (decide (a = b) = false) := decide_eq_false (fun e => hl (by rw [Hla.out, Hlb.out, e]))
    clear hl
    go_enter Tryd.func48, Tryd.ntmps48
    go_wp2_with fail
    go_ret
    exact ⟨by show Ending.returned (.bool _) = _; rw [Hr.out], Below.refl _ _⟩
  subst hl
  have b1 : ((la : Int) != (la : Int)) = false := by simp
  go_enter Tryd.func48, Tryd.ntmps48
  go_wp2_with fail
  go_loopw [5] (fun i wr => ∃ k : Nat, k ≤ la ∧ i = .int .i64 (k : Int) ∧ Below w.heap.size w wr ∧ Hid (∀ j, j < k → a[j]? = b[j]?)) (fun i _ => la - (intOf i).toNat)
  case atStart => exact ⟨0, Nat.zero_le _, rfl, Below.refl _ _, fun j hj => by omega⟩
  case round =>
    obtain ⟨k, hk, rfl, hbw, hrel⟩ := hrel
    have Hbw := Lib.hid hbw
    have Hrel := Lib.hid hrel.out
    clear hrel
    rcases Nat.lt_or_ge k la with hlt | hge
    · obtain ⟨x, hx⟩ := zei (l := a) (j := k) (by rw [← Hla.out]; exact hlt)
      obtain ⟨y, hy⟩ := zei (l := b) (j := k) (by rw [← Hlb.out]; exact hlt)
      obtain ⟨ba, oa, ea, rfl, _, he1, _, c0⟩ := IsS.get (IsIs.stb.to HA.out (zam hbw)) (by omega) hx
      obtain ⟨bb, ob, eb, rfl, _, he2, _, d0⟩ := IsS.get (IsIs.stb.to HB.out (zam hbw)) (by omega) hy
      have he1' : ea = .int .i64 (x : Int) := he1
      have he2' : eb = .int .i64 (y : Int) := he2
      subst he1' he2'
      have c1 : wr.cell? ⟨ba, oa + k, none⟩ = some (.int .i64 (x : Int)) := by simpa using c0 0 (.int .i64 (x : Int)) rfl
      have d1 : wr.cell? ⟨bb, ob + k, none⟩ = some (.int .i64 (y : Int)) := by simpa using d0 0 (.int .i64 (y : Int)) rfl
      have Hx := Lib.hid hx
      have Hy := Lib.hid hy
      clear hx hy he1 he2 c0 d0 hbw
      by_cases hxy : x = y
      · have hb1 : (((x : Int)) != (y : Int)) = false := by simp [hxy]
        have Hxy := Lib.hid hxy
        clear hxy
        go_wp2_with fail
        go_quiet (fail)
        go_wp2_with fail
        go_roundw
        case rel =>
          refine ⟨k + 1, by omega, by go_num, ?_, fun j hj => ?_⟩
          · exact zaa Hbw.out (Dr.below ⟨_, rfl⟩ _)
          · rcases Nat.lt_or_ge j k with h | h
            · exact Hrel.out j h
            · obtain rfl : j = k := by omega
              rw [Hx.out, Hy.out, Hxy.out]
        case measure => simp [intOf]; omega
      · have hb1 : (((x : Int)) != (y : Int)) = true := bne_iff_ne.2 (by omega)
        have Hr : Hid (decide (a = b) = false) := decide_eq_false (fun e => hxy (by have h1 := Hx.out; rw [e, Hy.out] at h1; exact (Option.some.inj h1).symm))
        clear hxy
        go_wp2_with fail
        go_quiet (fail)
        go_wp2_with fail
        go_ret
        exact ⟨by show Ending.returned (.bool _) = _; rw [Hr.out], zaa Hbw.out (Dr.below ⟨_, rfl⟩ _)⟩
    · obtain rfl : k = la := by omega
      have Hr : Hid (decide (a = b) = true) := decide_eq_true (list_eq (by rw [← Hla.out, ← Hlb.out]) (fun j hj => Hrel.out j (by rw [Hla.out]; exact hj)))
      clear hbw
      go_wp2_with fail
      go_ret
      exact ⟨by show Ending.returned (.bool _) = _; rw [Hr.out], Hbw.out⟩
def sQ : List (List Rat) := [zas 1 [1, 2], zas 1 [2, 4]]
set_option maxRecDepth 100000 in
set_option maxHeartbeats 2000000 in
theorem s3_l (w : World) : Calls Tryd.prog 47 #[] w fun e w' => (∃ v, e = .returned v ∧ IsM w' (Old w') v (rawM sQ)) ∧ Below w.heap.size w w' := by
  go_enter Tryd.func47, Tryd.ntmps47
  go_wp2_with fail
  refine (zbe (w := w.alloc (.cells #[.int .i64 1, .int .i64 2] 3)) (l := [1, 2]) (heap_alloc_new w _) (by decide) (by decide)).mono ?_
  rintro e w1 ⟨⟨va, rfl, hv⟩, hb⟩
  have HB := Lib.hid (zaa (zal w _) hb)
  have Va := Lib.hid (IsV.stb.old hv)
  obtain ⟨Pa, ka, rfl, _⟩ := zav hv
  clear hv hb
  go_wp2_with fail
  refine (zbe (w := w1.alloc (.cells #[.int .i64 2, .int .i64 4] 3)) (l := [2, 4]) (heap_alloc_new w1 _) (by decide) (by decide)).mono ?_
  rintro e w2 ⟨⟨vb, rfl, hv⟩, hb⟩
  have hb' := zaa (zal w1 _) hb
  have HB := Lib.hid (zaa HB.out hb')
  have Va := Lib.hid (IsV.stb.next Va.out hb')
  have Vb := Lib.hid (IsV.stb.old hv)
  obtain ⟨Pb, kb, rfl, _⟩ := zav hv
  clear hv hb hb'
  go_wp2_with fail
  go_ret
  exact ⟨⟨_, rfl, zdx (heap_alloc_new w2 _) (IsV.stb.next Va.out (zal _ _)) (IsV.stb.next Vb.out (zal _ _))⟩, zaa HB.out (zal _ _)⟩
theorem isPv_is {w : World} {v : Value} {l : List Nat} (h : IsPv w (Old w) v l) : IsIs w (Old w) v l := by
  obtain ⟨A, c, rfl, h⟩ := h
  obtain ⟨B, d, es, e, h1, h2, h3, h4, h5⟩ := h
  simp only [Value.slice.injEq] at e
  obtain ⟨rfl, _, rfl⟩ := e
  refine ⟨A, c, es, rfl, by simpa using h1, h2, h3, h4, by rw [h5.1, List.length_map], fun j x y hx hy => ?_⟩
  exact h5.2 j x (.int .i64 (y : Int)) hx (by rw [List.getElem?_map, hy]; rfl)
theorem isIs_row {w : World} {g : Nat} {t : TypeId} {l : List Nat} {n : Nat} (h : Row w g t (l.map fun (x : Nat) => Value.int .i64 (x : Int))) (hn : n = l.length) (hl : l.length ≤ 1000) : IsIs w (Old w) (.slice (some ⟨g, 0, none⟩) n n) l := by
  subst hn
  refine ⟨some ⟨g, 0, none⟩, l.length, l.map fun (x : Nat) => Value.int .i64 (x : Int), rfl, Nat.le_refl _, by unfold maxLen; omega, fun x0 => ⟨g, 0, rfl, h.lt, fun j v hv => ?_⟩, ?_, ?_⟩
  · have hc : cellsOf (l.map fun (x : Nat) => Value.int .i64 (x : Int)) = l.map fun (x : Nat) => Value.int .i64 (x : Int) := by
      clear h hv hl x0
      induction l with
      | nil => rfl
      | cons a l ih => rw [List.map_cons, cellsOf, List.flatMap_cons, ← cellsOf, ih]; rfl
    rw [hc] at hv
    rw [Nat.zero_add, h.cell j]
    exact hv
  · intro v hv
    obtain ⟨x, _, rfl⟩ := List.mem_map.1 hv
    rfl
  · refine ⟨by simp, fun j x y hx hy => ?_⟩
    rw [List.getElem?_map, hy] at hx
    cases hx
    rfl
theorem rows2 {P : List Rat → Prop} {a b : List Rat} (ha : P a) (hb : P b) : ∀ r ∈ [a, b], P r := by
  intro r hr
  simp only [List.mem_cons, List.not_mem_nil, or_false] at hr
  rcases hr with rfl | rfl
  · exact ha
  · exact hb
theorem rows1 {P : List Rat → Prop} {a : List Rat} (ha : P a) : ∀ r ∈ [a], P r := by
  intro r hr
  rw [List.mem_singleton.1 hr]; exact ha
theorem sQ_row : ∀ r ∈ sQ, r.length = 2 := rows2 rfl rfl
theorem sQ_sz : ∀ r ∈ sQ, ∀ q ∈ r, Sz q 1024 := rows2 (zbd (by decide) (by decide) (by decide)) (zbd (by decide) (by decide) (by decide))
theorem sQ_chk : chkM (rawM sQ) = 0 := chkM_raw (c := 2) (by decide) (by decide) sQ_row sQ_sz
def zQ : List (List Rat) := [zas 1 [0, 2, 4], zas 1 [0, 0, 0]]
theorem zQ_row : ∀ r ∈ zQ, r.length = 3 := rows2 rfl rfl
theorem zQ_sz : ∀ r ∈ zQ, ∀ q ∈ r, Sz q 1024 := rows2 (zbd (by decide) (by decide) (by decide)) (zbd (by decide) (by decide) (by decide))
theorem zQ_chk : chkM (rawM zQ) = 0 := chkM_raw (c := 3) (by decide) (by decide) zQ_row zQ_sz
theorem scE_over {a : List Rat} {y : Rat} (hl : a.length ≤ 40) (sa : ∀ q ∈ a, Sz q 1024) (sy : Sz y 1024) : scaleE (rawV a) (raw y) = 0 := by
  unfold scaleE
  have e1 : chkV (rawV a) = 0 := chkV_raw hl sa
  have e2 : chkQ (raw y) = 0 := chkQ_raw sy
  rw [if_neg (by rw [e1]; simp), e2]
theorem bE_over {a b : List Rat} (ha : a.length ≤ 40) (hl : a.length = b.length) (sa : ∀ q ∈ a, Sz q 1024) (sb : ∀ q ∈ b, Sz q 1024) : bothE (rawV a) (rawV b) = 0 := by
  unfold bothE
  have e1 : chkV (rawV a) = 0 := chkV_raw ha sa
  have e2 : chkV (rawV b) = 0 := chkV_raw (by omega) sb
  rw [if_neg (by rw [e1]; simp), if_neg (by rw [e2]; simp), if_neg (by rw [zbr, zbr]; simpa using hl)]
theorem kadd {w : World} {va vb : Value} (ha : IsV w (Old w) va (rawV (zas 1 [1, 2]))) (hb : IsV w (Old w) vb (rawV (zas 2 [1, 0]))) (hB : Bru w) :
    Calls Tryd.prog 42 #[va, vb] w fun e w' => (∃ v', e = .returned (.tuple #[v', .int .i64 0]) ∧ IsV w' (Old w') v' (rawV (zas 2 [3, 4]))) ∧ Below w.heap.size w w' := by
  have e : addQ (zas 1 [1, 2]) (zas 2 [1, 0]) = zas 2 [3, 4] := by decide +kernel
  have h := vAdd_good (M := 2) ha hb hB (bE_over (by decide) rfl (zbd (by decide) (by decide) (by decide)) (zbd (by decide) (by decide) (by decide))) rfl rfl (by omega) (zbd (by decide) (by decide) (by decide)) (zbd (by decide) (by decide) (by decide)) (by rw [e]; exact (zbd (by decide) (by decide) (by decide)))
  rw [e] at h
  exact h
theorem kscale {w : World} {va vb : Value} (ha : IsV w (Old w) va (rawV (zas 1 [1, 2]))) (hb : IsQ w (Old w) vb (zcu (-1) 2)) (hB : Bru w) :
    Calls Tryd.prog 45 #[va, vb] w fun e w' => (∃ v', e = .returned (.tuple #[v', .int .i64 0]) ∧ IsV w' (Old w') v' (rawV (zas 2 [-1, -2]))) ∧ Below w.heap.size w w' := by
  have e : zfh (zas 1 [1, 2]) (zcu (-1) 2) = zas 2 [-1, -2] := by decide +kernel
  have s1 : Sz (zcu (-1) 2) 1024 := (quot_sz (by decide) (by decide) (by decide)).le (by omega)
  have h := vScale_good (M := 2) ha hb hB (scE_over (by decide) (zbd (by decide) (by decide) (by decide)) s1) rfl (by omega) (zbd (by decide) (by decide) (by decide)) s1 (by rw [e]; exact (zbd (by decide) (by decide) (by decide)))
  rw [e] at h
  exact h
theorem kapply {w : World} {va vb : Value} (ha : IsM w (Old w) va (rawM aQ)) (hb : IsV w (Old w) vb (rawV (zas 1 [1, 1]))) (hB : Bru w) :
    Calls Tryd.prog 28 #[va, vb] w fun e w' => (∃ v', e = .returned (.tuple #[v', .int .i64 0]) ∧ IsV w' (Old w') v' (rawV (zas 1 [3, 7]))) ∧ Below w.heap.size w w' := by
  have e : zfg aQ (zas 1 [1, 1]) = zas 1 [3, 7] := by decide +kernel
  have h := vApply_good (n := 2) (m := 2) ha hb hB rfl aQ_row (by omega) (by omega) (by omega) rfl aQ_chk (zdy (by decide) (by decide) (by decide) (by decide)) aQ_sz (zbd (by decide) (by decide) (by decide)) (by rw [e]; exact (zbd (by decide) (by decide) (by decide)))
  rw [e] at h
  exact h
theorem kmul {w : World} {va vb : Value} (ha : IsM w (Old w) va (rawM aQ)) (hb : IsM w (Old w) vb (rawM sQ)) (hB : Bru w) :
    Calls Tryd.prog 40 #[va, vb] w fun e w' => (∃ v', e = .returned (.tuple #[v', .int .i64 0]) ∧ IsM w' (Old w') v' (rawM ([zas 1 [5, 10], zas 1 [11, 22]]))) ∧ Below w.heap.size w w' := by
  have e : mulQ aQ sQ 2 = [zas 1 [5, 10], zas 1 [11, 22]] := by decide +kernel
  have h := vMul_good (n := 2) (m := 2) (p := 2) ha hb hB rfl aQ_row (by omega) (by omega) (by omega) (by omega) rfl sQ_row (by omega) aQ_chk sQ_chk aQ_sz sQ_sz (by rw [e]; exact rows2 (zbd (by decide) (by decide) (by decide)) (zbd (by decide) (by decide) (by decide)))
  rw [e] at h
  exact h
theorem kturn {w : World} {va : Value} (ha : IsM w (Old w) va (rawM aQ)) (hB : Bru w) :
    Calls Tryd.prog 37 #[va] w fun e w' => (∃ v', e = .returned (.tuple #[v', .int .i64 0]) ∧ IsM w' (Old w') v' (rawM ([zas 1 [1, 3], zas 1 [2, 4]]))) ∧ Below w.heap.size w w' := by
  have e : turnQ aQ 2 = [zas 1 [1, 3], zas 1 [2, 4]] := by decide +kernel
  have h := vTurn_good (n := 2) (m := 2) ha hB rfl aQ_row (by omega) (by omega) (by omega) aQ_chk aQ_sz
  rw [e] at h
  exact h
def stS : RS := runK 2 2 (zcn sQ) 2
theorem stS_bnd : ∀ k, k ≤ 2 → zez 2 2 (runK 2 2 (zcn sQ) k) = true := by decide +kernel
theorem stS_piv : stS.piv = [0] := by decide +kernel
theorem stS_form : zfn stS 2 2 = [zas 1 [1, 2], zas 1 [0, 0]] := by decide +kernel
theorem stS_ker : kerQ stS 2 2 = [zas 1 [-2, 1]] := by decide +kernel
theorem stS_at : atQ stS.A stS.piv.length stS.d 0 0 = zcu 1 1 ∧ atQ stS.A stS.piv.length stS.d 0 1 = zcu 2 1 := by decide +kernel
def stZ : RS := runK 2 3 (zcn zQ) 3
theorem stZ_bnd : ∀ k, k ≤ 3 → zez 2 3 (runK 2 3 (zcn zQ) k) = true := by decide +kernel
theorem stZ_piv : stZ.piv = [1] := by decide +kernel
theorem stZ_form : zfn stZ 3 2 = [zas 1 [0, 1, 2], zas 1 [0, 0, 0]] := by decide +kernel
theorem kechs {w : World} {va : Value} (ha : IsM w (Old w) va (rawM sQ)) (hB : Bru w) :
    Calls Tryd.prog 25 #[va] w fun e w' => (∃ v' vp, e = .returned (.tuple #[v', vp, .int .i64 0]) ∧ IsM w' (Old w') v' (rawM ([zas 1 [1, 2], zas 1 [0, 0]])) ∧ IsIs w' (Old w') vp [0]) ∧ Below w.heap.size w w' := by
  have h := echelon_l (n := 2) (m := 2) (s := stS) ha hB rfl sQ_row sQ_sz (by omega) (by omega) (by omega) (by omega) sQ_chk (fun k hk => zcq (stS_bnd k hk)) rfl (by rw [stS_form]; exact rows2 (zbd (by decide) (by decide) (by decide)) (zbd (by decide) (by decide) (by decide)))
  rw [stS_form, stS_piv] at h
  exact h.mono fun e w' ⟨⟨v', vp, h1, h2, h3⟩, h4⟩ => ⟨⟨v', vp, h1, h2, isPv_is h3⟩, h4⟩
theorem kechz {w : World} {va : Value} (ha : IsM w (Old w) va (rawM zQ)) (hB : Bru w) :
    Calls Tryd.prog 25 #[va] w fun e w' => (∃ v' vp, e = .returned (.tuple #[v', vp, .int .i64 0]) ∧ IsM w' (Old w') v' (rawM ([zas 1 [0, 1, 2], zas 1 [0, 0, 0]])) ∧ IsIs w' (Old w') vp [1]) ∧ Below w.heap.size w w' := by
  have h := echelon_l (n := 2) (m := 3) (s := stZ) ha hB rfl zQ_row zQ_sz (by omega) (by omega) (by omega) (by omega) zQ_chk (fun k hk => zcq (stZ_bnd k hk)) rfl (by rw [stZ_form]; exact rows2 (zbd (by decide) (by decide) (by decide)) (zbd (by decide) (by decide) (by decide)))
  rw [stZ_form, stZ_piv] at h
  exact h.mono fun e w' ⟨⟨v', vp, h1, h2, h3⟩, h4⟩ => ⟨⟨v', vp, h1, h2, isPv_is h3⟩, h4⟩
theorem kker {w : World} {va : Value} (ha : IsM w (Old w) va (rawM sQ)) (hB : Bru w) :
    Calls Tryd.prog 26 #[va] w fun e w' => (∃ v', e = .returned (.tuple #[v', .int .i64 0]) ∧ IsM w' (Old w') v' (rawM ([zas 1 [-2, 1]]))) ∧ Below w.heap.size w w' := by
  have h := kernel_l (n := 2) (m := 2) (s := stS) ha hB rfl sQ_row sQ_sz (by omega) (by omega) (by omega) (by omega) sQ_chk (fun k hk => zcq (stS_bnd k hk)) rfl (fun t f ht hf => by
    have h0 : t = 0 := by rw [stS_piv] at ht; simp at ht; exact ht
    subst h0
    have hf' : f = 0 ∨ f = 1 := by omega
    rcases hf' with rfl | rfl
    · rw [stS_at.1]; exact (quot_sz (by decide) (by decide) (by decide)).le (by omega)
    · rw [stS_at.2]; exact (quot_sz (by decide) (by decide) (by decide)).le (by omega)) (by rw [stS_ker]; exact rows1 (zbd (by decide) (by decide) (by decide)))
  rw [stS_ker] at h
  exact h
def stA : RS := runK 2 3 (zcn (zfl sQ (zas 1 [1, 2]) 2)) 2
theorem stA_bnd : ∀ k, k ≤ 2 → zez 2 3 (runK 2 3 (zcn (zfl sQ (zas 1 [1, 2]) 2)) k) = true := by decide +kernel
theorem stA_zero : stA.piv.length = 1 ∧ stA.A 1 2 = 0 := by decide +kernel
theorem stA_sol : zfk stA 2 stA.piv.length = zas 1 [1, 0] := by decide +kernel
theorem stA_none : ¬ noneS stA 2 2 := by
  rintro ⟨i, h1, h2, h3⟩
  rw [stA_zero.1] at h1
  have : i = 1 := by omega
  subst this
  exact h3 stA_zero.2
def stN : RS := runK 2 3 (zcn (zfl sQ (zas 1 [1, 1]) 2)) 2
theorem stN_bnd : ∀ k, k ≤ 2 → zez 2 3 (runK 2 3 (zcn (zfl sQ (zas 1 [1, 1]) 2)) k) = true := by decide +kernel
theorem stN_val : stN.piv.length = 1 ∧ stN.A 1 2 ≠ 0 := by decide +kernel
theorem stN_none : noneS stN 2 2 := ⟨1, by rw [stN_val.1]; omega, by omega, stN_val.2⟩
def stI : RS := runK 2 4 (zcn (zdu sQ 2 2)) 2
theorem stI_bnd : ∀ k, k ≤ 2 → zez 2 4 (runK 2 4 (zcn (zdu sQ 2 2)) k) = true := by decide +kernel
theorem stI_len : stI.piv.length = 1 := by decide +kernel
theorem ksol {w : World} {va vb : Value} (ha : IsM w (Old w) va (rawM sQ)) (hb : IsV w (Old w) vb (rawV (zas 1 [1, 2]))) (hB : Bru w) :
    Calls Tryd.prog 35 #[va, vb] w fun e w' => (∃ v', e = .returned (.tuple #[v', .int .i64 0]) ∧ IsV w' (Old w') v' (rawV (zas 1 [1, 0]))) ∧ Below w.heap.size w w' := by
  refine (solve_l (n := 2) (m := 2) (s := stA) ha hb hB rfl rfl sQ_row sQ_sz (zbd (by decide) (by decide) (by decide)) (by omega) (by omega) (by omega) (by omega) sQ_chk (zdy (by decide) (by decide) (by decide) (by decide)) (fun k hk => zcq (stA_bnd k hk)) rfl).mono ?_
  rintro e w' ⟨⟨_, h2⟩, hb⟩
  obtain ⟨v', he, hv'⟩ := h2 stA_none
  rw [stA_sol] at he hv'
  rw [bndV_ok (zbd (by decide) (by decide) (by decide))] at he
  exact ⟨⟨v', he, hv'⟩, hb⟩
theorem knone {w : World} {va vb : Value} (ha : IsM w (Old w) va (rawM sQ)) (hb : IsV w (Old w) vb (rawV (zas 1 [1, 1]))) (hB : Bru w) :
    Calls Tryd.prog 35 #[va, vb] w fun e w' => e = .returned (.tuple #[.slice none 0 0, .int .i64 18]) ∧ Below w.heap.size w w' := by
  exact (solve_l (n := 2) (m := 2) (s := stN) ha hb hB rfl rfl sQ_row sQ_sz (zbd (by decide) (by decide) (by decide)) (by omega) (by omega) (by omega) (by omega) sQ_chk (zdy (by decide) (by decide) (by decide) (by decide)) (fun k hk => zcq (stN_bnd k hk)) rfl).mono fun e w' ⟨⟨h1, _⟩, hb⟩ => ⟨h1 stN_none, hb⟩
theorem ksing {w : World} {va : Value} (ha : IsM w (Old w) va (rawM sQ)) (hB : Bru w) :
    Calls Tryd.prog 39 #[va] w fun e w' => e = .returned (.tuple #[.slice none 0 0, .int .i64 15]) ∧ Below w.heap.size w w' := by
  exact (inverse_l (s := stI) (n := 2) ha hB rfl sQ_row sQ_sz (by omega) (by omega) sQ_chk (fun k hk => zcq (stI_bnd k hk)) rfl).mono fun e w' ⟨⟨h1, _⟩, hb⟩ => ⟨h1 (by rw [stI_len]; omega), hb⟩
theorem kdot {w : World} {va vb : Value} (ha : IsV w (Old w) va (rawV (zas 1 [1, 2]))) (hb : IsV w (Old w) vb (rawV (zas 1 [1]))) (hB : Bru w) :
    Calls Tryd.prog 38 #[va, vb] w fun e w' => e = .returned (.tuple #[.agg #[.bool false, .slice none 0 0, .slice none 0 0], .int .i64 10]) ∧ Below w.heap.size w w' := by
  have e : bothE (rawV (zas 1 [1, 2])) (rawV (zas 1 [1])) = 10 := by
    unfold bothE
    rw [zdy (by decide) (by decide) (by decide) (by decide), zdy (by decide) (by decide) (by decide) (by decide)]
    rfl
  have h := vDot_bad ha hb hB (by rw [e]; decide)
  rw [e] at h
  exact h
theorem kform {w : World} {va : Value} (ha : IsM w (Old w) va (rawM [zas 1 [1, 2], zas 1 [1]])) (hB : Bru w) :
    Calls Tryd.prog 49 #[va] w fun e w' => e = .returned (.int .i64 3) ∧ Below w.heap.size w w' := by
  have e : chkM (rawM [zas 1 [1, 2], zas 1 [1]]) = 3 := by
    have e1 : chkV (rawV (zas 1 [1, 2])) = 0 := zdy (by decide) (by decide) (by decide) (by decide)
    have e2 : (rawV (zas 1 [1, 2])).length = 2 := rfl
    have e3 : (rawV (zas 1 [1])).length = 1 := rfl
    unfold chkM
    rw [if_neg (by decide)]
    simp only [rawM, List.map_cons, List.map_nil, List.headD_cons, e1, e2, e3, fstE]
    rfl
  have h := form_l ha hB
  rw [e] at h
  exact h
end Go.Proofs.YtblpaocignlpkaaDoor
