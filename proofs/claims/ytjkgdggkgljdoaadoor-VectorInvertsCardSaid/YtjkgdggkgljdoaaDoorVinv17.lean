/-
  The zau of package vector's Solve.
-/
import Derived.Test.YtjkgdggkgljdoaaDoorVinv10
import Derived.Test.YtjkgdggkgljdoaaDoorVinv16
import Derived.BigQuiet
namespace Go.Proofs.YtjkgdggkgljdoaaDoor
open Go.RowKit
set_option linter.unusedVariables false
def noneS (s : RS) (n m : Nat) : Prop := ∃ i, s.piv.length ≤ i ∧ i < n ∧ s.A i m ≠ 0
def zdq (s : RS) (m : Nat) : Nat → List Rat
  | 0 => List.replicate m 0
  | k + 1 => (zdq s m k).set (s.piv.getD k 0) (atQ s.A s.piv.length s.d k m)
theorem solTo_len (s : RS) (m k : Nat) : (zdq s m k).length = m := by
  induction k with
  | zero => simp [zdq]
  | succ k ih => rw [zdq, List.length_set, ih]
theorem runK_piv {n m : Nat} {A : Nat → Nat → Int} (k : Nat) : ∀ c ∈ (runK n m A k).piv, c < k := by
  induction k with
  | zero => intro c hc; cases hc
  | succ k ih =>
    intro c hc
    rw [runK] at hc
    cases e : zek (runK n m A k).A (runK n m A k).piv.length n k with
    | none => rw [e] at hc; have := ih c hc; omega
    | some r =>
      rw [e] at hc
      rcases List.mem_append.1 hc with h | h
      · have := ih c h; omega
      · rw [List.mem_singleton.1 h]; omega
theorem wideB_row {M : List (List Rat)} {b : List Rat} {n m k : Nat} (hn : M.length = n) (hbl : b.length = n) (hrow : ∀ r ∈ M, r.length = m) (hs : ∀ r ∈ M, ∀ q ∈ r, Sz q 1024) (hsb : ∀ q ∈ b, Sz q 1024) (hk : k ≤ n) : ∀ r ∈ zdr M b k, r.length = m + 1 ∧ ∀ q ∈ r, Sz q 1024 := fun r hr => by
  unfold zdr at hr
  obtain ⟨i, hi, rfl⟩ := List.mem_map.1 hr
  have hi := List.mem_range.1 hi
  have hm : M.getD i [] ∈ M := by
    rw [List.getD_eq_getElem?_getD, List.getElem?_eq_getElem (by omega)]
    exact List.getElem_mem _
  have hb : b.getD i 0 ∈ b := by
    rw [List.getD_eq_getElem?_getD, List.getElem?_eq_getElem (by omega)]
    exact List.getElem_mem _
  refine ⟨by rw [List.length_append, hrow _ hm]; rfl, fun q hq => ?_⟩
  rcases List.mem_append.1 hq with h | h
  · exact hs _ hm q h
  · rw [List.mem_singleton.1 h]; exact hsb _ hb
set_option maxRecDepth 100000 in
set_option maxHeartbeats 8000000 in
theorem solve_l {w : World} {v vb : Value} {M : List (List Rat)} {b : List Rat} {n m : Nat} {s : RS} (h : IsM w (Old w) v (rawM M)) (hv : IsV w (Old w) vb (rawV b)) (hB : Bru w) (hn : M.length = n) (hbl : b.length = n) (hrow : ∀ r ∈ M, r.length = m) (hs : ∀ r ∈ M, ∀ q ∈ r, Sz q 1024) (hsb : ∀ q ∈ b, Sz q 1024)
    (hn1 : 1 ≤ n) (hn9 : n ≤ 40) (hm1 : 1 ≤ m) (hm9 : m ≤ 40) (hf : chkM (rawM M) = 0) (hfb : chkV (rawV b) = 0) (hbnd : ∀ k, k ≤ m → BndS n (m + 1) (runK n (m + 1) (zbj (zdr M b n)) k)) (hsr : s = runK n (m + 1) (zbj (zdr M b n)) m) :
    Calls Tryd.prog 35 #[v, vb] w fun e w' => ((noneS s n m → e = .returned (.tuple #[.slice none 0 0, .int .i64 18])) ∧ (¬ noneS s n m → ∃ v', e = bndV v' (zdq s m s.piv.length) ∧ IsV w' (Old w') v' (rawV (zdq s m s.piv.length)))) ∧ Below w.heap.size w w' := by
  have H := Lib.hid h
  have HV := Lib.hid hv
  have HB := Lib.hid hB
  have Hn := Lib.hid hn
  have Hbl := Lib.hid hbl
  have Hrow := Lib.hid hrow
  have Hs := Lib.hid hs
  have Hsb := Lib.hid hsb
  have Hbnd := Lib.hid hbnd
  have Hsr := Lib.hid hsr
  have Hf := Lib.hid hf
  have Hfb := Lib.hid hfb
  obtain ⟨A, c, rfl, hl⟩ := zca h
  obtain ⟨B, cB, rfl, hlb⟩ := zcm hv
  have el : (rawM M).length = n := by simp [rawM, hn]
  have elb : (rawV b).length = n := by simp [rawV, hbl]
  rw [el] at H hl ⊢
  rw [elb] at HV hlb ⊢
  have Hcol : Hid (((rawM M).headD []).length = m) := by
    cases M with
    | nil => simp at hn; omega
    | cons r t => exact (zbn r).trans (hrow r (List.mem_cons_self ..))
  clear h hv hB hn hbl hrow hs hsb hbnd hsr hf hfb el elb
  go_enter Tryd.func35, Tryd.ntmps35
  go_wp2_with fail
  refine (form_l H.out HB.out).mono ?_
  rw [Hf.out]
  rintro e w1 ⟨rfl, hb1⟩
  have HB1 := Lib.hid hb1
  clear hb1
  go_wp2_with fail
  refine (vcheck_l (IsV.stb.to HV.out (zba HB1.out)) (Bru.next HB.out HB1.out)).mono ?_
  rw [Hfb.out]
  rintro e w2 ⟨rfl, hb2⟩
  have HB2 := Lib.hid (zaa HB1.out hb2)
  clear hb2
  go_wp2_with fail
  refine (zfr (IsM.stb.to H.out (zba HB2.out))).mono ?_
  rw [Hcol.out]
  rintro e w3 ⟨rfl, rfl⟩
  go_wp2_with (at_make; refine zdl elV rfl _ _ rfl IsV n rfl rfl rfl (by omega) (base := w2.heap.size) (S := fun _ => False) (Nat.le_refl _) (fun b h => h.elim) ?_; intro v0 w0 hown0 hb0 hz0)
  have O0 := Lib.hid hown0
  have HB0 := Lib.hid (zaa HB2.out hb0)
  have hz1 := HB2.out.size
  have Hz0 := Lib.hid hz0
  clear hown0 hb0 hz0
  go_loopw [40, 9, 10, 11] (fun ii wd _ _ wr => ∃ (k : Nat) (S : Nat → Prop), k ≤ n ∧ ii = .int .i64 (k : Int) ∧ Below w.heap.size w wr ∧ Hid (OwnS 1 29 IsV wr w2.heap.size S wd (rawM (zdr M b k))) ∧ Hid (∀ b, b < w.heap.size → S b) ∧ Hid (w2.heap.size ≤ wr.heap.size)) (fun ii _ _ _ _ => n - (intOf ii).toNat)
  case atStart =>
    refine ⟨0, Old w, Nat.zero_le _, rfl, HB0.out, ?_, fun b h => h, ?_⟩
    · exact O0.out.wider IsV.stb (fun b h => h.elim) fun b h => ⟨by have h : b < w.heap.size := h; have := HB0.out.size; omega, fun e => by have := (O0.out.own_lt b e.symm).1; have h : b < w.heap.size := h; omega⟩
    · exact Hz0.out
  case round =>
    obtain ⟨k, S, hk, rfl, hbw, hown, hS, hzr⟩ := hrel
    obtain ⟨wn, rfl⟩ : ∃ x, x = wr := ⟨_, rfl⟩
    have HW := Lib.hid hbw
    rcases Nat.lt_or_ge k n with hlt | hge
    · obtain ⟨r, hr, hrr⟩ := zeg (m := M) (j := k) (by rw [Hn.out]; exact hlt)
      obtain ⟨y, hy, hyy⟩ := zeh (l := b) (j := k) (by rw [Hbl.out]; exact hlt)
      obtain ⟨b2, o2, R1, R2, rfl, hSb, helr, d0⟩ := zcr H.out hrr
      obtain ⟨b3, o3, X1, X2, X3, X4, rfl, hSb3, helx, c0, c1, c2⟩ := zdn HV.out hyy
      obtain ⟨x0, hx0⟩ : ∃ s, s = (raw y).neg := ⟨_, rfl⟩
      obtain ⟨x1, hx1⟩ : ∃ s, s = (raw y).num.length := ⟨_, rfl⟩
      obtain ⟨x2, hx2⟩ : ∃ s, s = (raw y).den.length := ⟨_, rfl⟩
      rw [← hx0] at c0
      rw [← hx1] at c1
      rw [← hx2] at c2
      rw [← hx0, ← hx1, ← hx2] at helx
      have er : r.length = m := Hrow.out r (List.mem_of_getElem? hr)
      rw [zbn r, er] at d0 helr
      replace d0 := hbw.cell (p := ⟨b2, o2 + k, none⟩) hSb |>.trans d0
      have Hy3 : Hid (wn.cell? ⟨b3, o3 + k * 3, none⟩ = some (.bool x0) ∧ wn.cell? ⟨b3, o3 + k * 3 + 1, none⟩ = some (.slice X1 x1 X2) ∧ wn.cell? ⟨b3, o3 + k * 3 + 2, none⟩ = some (.slice X3 x2 X4)) :=
        ⟨hbw.cell (p := ⟨b3, o3 + k * 3, none⟩) hSb3 |>.trans c0, hbw.cell (p := ⟨b3, o3 + k * 3 + 1, none⟩) hSb3 |>.trans c1, hbw.cell (p := ⟨b3, o3 + k * 3 + 2, none⟩) hSb3 |>.trans c2⟩
      have VRn : Hid (IsV wn (Old w) (.slice R1 m R2) (rawV r)) := IsV.stb.to helr fun b hb => ⟨hb, fun o => hbw.cell (p := ⟨b, o, none⟩) hb⟩
      have EYn : Hid (IsR wn (Old w) (.agg #[.bool x0, .slice X1 x1 X2, .slice X3 x2 X4]) (raw y)) := IsR.stb.to helx fun b hb => ⟨hb, fun o => hbw.cell (p := ⟨b, o, none⟩) hb⟩
      have hlw : w.heap.size ≤ wn.heap.size := hbw.size
      have hb3n : b3 < wn.heap.size := Nat.lt_of_lt_of_le hSb3 hlw
      have Hr := Lib.hid hr
      have Hy := Lib.hid hy
      have Er := Lib.hid er
      have cr := zbr
      have hk0 : (0 : Int) ≤ (k : Int) := by omega
      have hk1 : (k : Int) < (n : Int) := by omega
      clear hr hy hrr hyy helr helx hSb hSb3 hbw er hx0 hx1 hx2 c0 c1 c2
      go_wp2_with fail
      refine region_abs fun ops hops => ?_
      have oq0 := zax (j := 0) hops rfl
      have oq1 := zax (j := 1) hops rfl
      have oq2 := zax (j := 2) hops rfl
      have oq3 := zax (j := 3) hops rfl
      have oq4 := zax (j := 4) hops rfl
      have oq5 := zax (j := 5) hops rfl
      have oq6 := zax (j := 6) hops rfl
      have oq7 := zax (j := 7) hops rfl
      have oq8 := zax (j := 8) hops rfl
      have oq9 := zax (j := 9) hops rfl
      have oq10 := zax (j := 10) hops rfl
      have oq11 := zax (j := 11) hops rfl
      have fr := fun t h => zey (n := 10) hops t h
      refine zfk 10 (PhiW u9 R1 m R2 b3 o3 n cB k x0 X1 x1 X2 X3 x2 X4 (rawV r) (raw y) w.heap.size wn.heap.size) (fun _ _ => True) (fun x => Below wn.heap.size wn x) (stepW wn.heap.size) (by kernel_rfl) (zab _) (fun _ => trivial) (fun _ _ _ _ _ _ _ _ => trivial) (fun i k' v wa wb X u hik hX h _ hE => phiW_st hlw i k' v wa wb X u hik hX h hE) (by rw [hops]; kernel_rfl) (by rw [hops]; kernel_rfl) ?step ?fin
      case step =>
        intro i o hin hi a W X hsz hdf hJ hP hXi hfree hdep
        obtain ⟨T, df⟩ := a
        replace hsz : T.size = 114 := hsz
        obtain rfl : df = [] := hdf
        match i, hin, hi, hXi, hP with
        | 0, _, hi, hXi, hP =>
          obtain rfl := Option.some.inj (oq0.symm.trans hi)
          have e9 : T[9]? = some (u9) := hfree 9 (fr 9 (by kernel_rfl))
          refine zaj rfl ?_
          refine zao (E := fun w' => stepW wn.heap.size 0 W w') (Φ := PhiW u9 R1 m R2 b3 o3 n cB k x0 X1 x1 X2 X3 x2 X4 (rawV r) (raw y) w.heap.size wn.heap.size 0) fun K hK => ?_
          clear hdep hfree hsz hops fr oq0 oq1 oq2 oq3 oq4 oq5 oq6 oq7 oq8 oq9 oq10 oq11
          go_simp
          exact hK (u9) _ (zcj (zak _ _)) hJ rfl
        | 1, _, hi, hXi, hP =>
          obtain rfl := Option.some.inj (oq1.symm.trans hi)
          have e11 : T[11]? = some (.slice R1 m R2) := hfree 11 (fr 11 (by kernel_rfl))
          refine zaj rfl ?_
          refine zao (E := fun w' => stepW wn.heap.size 1 W w') (Φ := PhiW u9 R1 m R2 b3 o3 n cB k x0 X1 x1 X2 X3 x2 X4 (rawV r) (raw y) w.heap.size wn.heap.size 1) fun K hK => ?_
          clear hdep hfree hsz hops fr oq0 oq1 oq2 oq3 oq4 oq5 oq6 oq7 oq8 oq9 oq10 oq11
          go_simp
          exact hK (.slice R1 m R2) _ (zcj (zak _ _)) hJ rfl
        | 2, _, hi, hXi, hP =>
          obtain rfl := Option.some.inj (oq2.symm.trans hi)
          have d46 : (T.getD 46 undef) = .slice R1 m R2 := (hdep 1 _ (odt (by kernel_rfl)) oq1).2
          have e46 := zan (by omega) d46
          clear d46
          refine zaj rfl ?_
          refine zao (E := fun w' => stepW wn.heap.size 2 W w') (Φ := PhiW u9 R1 m R2 b3 o3 n cB k x0 X1 x1 X2 X3 x2 X4 (rawV r) (raw y) w.heap.size wn.heap.size 2) fun K hK => ?_
          clear hdep hfree hsz hops fr oq0 oq1 oq2 oq3 oq4 oq5 oq6 oq7 oq8 oq9 oq10 oq11
          refine step_cloneG elR (.const (.slice none 0 0)) (.tmp 46) rfl IsR.stb rfl (zei e46) (IsV.stb.to VRn.out (T := fun b => b < w.heap.size) fun b hb => ⟨hb, fun o => hJ.cell (p := ⟨b, o, none⟩) (Nat.lt_of_lt_of_le hb hlw)⟩) (isV_ne Er.out hm1) (fun b h => Nat.lt_of_lt_of_le h (Nat.le_trans hlw hJ.size)) (fun e x h => isR_one h) (by rw [zbn, Er.out]; omega) (base := wn.heap.size) hJ.size fun v' w' h1 h2 h3 => hK v' w' (zcj h2) (stepW_below hJ hJ.size (zcj (k := 0) h2)) ⟨fun _ => h1, fun b e => Nat.le_trans hJ.size (h3 b e)⟩
        | 3, _, hi, hXi, hP =>
          obtain rfl := Option.some.inj (oq3.symm.trans hi)
          have e1 : T[1]? = some (.slice (some ⟨b3, o3, none⟩) n cB) := hfree 1 (fr 1 (by kernel_rfl))
          refine zaj rfl ?_
          refine zao (E := fun w' => stepW wn.heap.size 3 W w') (Φ := PhiW u9 R1 m R2 b3 o3 n cB k x0 X1 x1 X2 X3 x2 X4 (rawV r) (raw y) w.heap.size wn.heap.size 3) fun K hK => ?_
          clear hdep hfree hsz hops fr oq0 oq1 oq2 oq3 oq4 oq5 oq6 oq7 oq8 oq9 oq10 oq11
          go_simp
          exact hK (.slice (some ⟨b3, o3, none⟩) n cB) _ (zcj (zak _ _)) hJ rfl
        | 4, _, hi, hXi, hP =>
          obtain rfl := Option.some.inj (oq4.symm.trans hi)
          have e10 : T[10]? = some (.int .i64 (k : Int)) := hfree 10 (fr 10 (by kernel_rfl))
          refine zaj rfl ?_
          refine zao (E := fun w' => stepW wn.heap.size 4 W w') (Φ := PhiW u9 R1 m R2 b3 o3 n cB k x0 X1 x1 X2 X3 x2 X4 (rawV r) (raw y) w.heap.size wn.heap.size 4) fun K hK => ?_
          clear hdep hfree hsz hops fr oq0 oq1 oq2 oq3 oq4 oq5 oq6 oq7 oq8 oq9 oq10 oq11
          go_simp
          exact hK (.int .i64 (k : Int)) _ (zcj (zak _ _)) hJ rfl
        | 5, _, hi, hXi, hP =>
          obtain rfl := Option.some.inj (oq5.symm.trans hi)
          have d48 : (T.getD 48 undef) = .slice (some ⟨b3, o3, none⟩) n cB := (hdep 3 _ (odt (by kernel_rfl)) oq3).2
          have e48 := zan (by omega) d48
          clear d48
          have d49 : (T.getD 49 undef) = .int .i64 (k : Int) := (hdep 4 _ (odt (by kernel_rfl)) oq4).2
          have e49 := zan (by omega) d49
          clear d49
          refine zaj rfl ?_
          refine zao (E := fun w' => stepW wn.heap.size 5 W w') (Φ := PhiW u9 R1 m R2 b3 o3 n cB k x0 X1 x1 X2 X3 x2 X4 (rawV r) (raw y) w.heap.size wn.heap.size 5) fun K hK => ?_
          clear hdep hfree hsz hops fr oq0 oq1 oq2 oq3 oq4 oq5 oq6 oq7 oq8 oq9 oq10 oq11
          go_simp
          exact hK (.pointer (some ⟨b3, (o3 + k * 3), none⟩)) _ (zcj (zak _ _)) hJ rfl
        | 6, _, hi, hXi, hP =>
          obtain rfl := Option.some.inj (oq6.symm.trans hi)
          have d50 : (T.getD 50 undef) = .pointer (some ⟨b3, (o3 + k * 3), none⟩) := (hdep 5 _ (odt (by kernel_rfl)) oq5).2
          have e50 := zan (by omega) d50
          clear d50
          obtain ⟨y0', y1', y2'⟩ := (show W.cell? ⟨b3, o3 + k * 3, none⟩ = some (.bool x0) ∧ W.cell? ⟨b3, o3 + k * 3 + 1, none⟩ = some (.slice X1 x1 X2) ∧ W.cell? ⟨b3, o3 + k * 3 + 2, none⟩ = some (.slice X3 x2 X4) from ⟨(hJ.cell (p := ⟨b3, o3 + k * 3, none⟩) hb3n).trans Hy3.out.1, (hJ.cell (p := ⟨b3, o3 + k * 3 + 1, none⟩) hb3n).trans Hy3.out.2.1, (hJ.cell (p := ⟨b3, o3 + k * 3 + 2, none⟩) hb3n).trans Hy3.out.2.2⟩)
          refine zaj rfl ?_
          refine zao (E := fun w' => stepW wn.heap.size 6 W w') (Φ := PhiW u9 R1 m R2 b3 o3 n cB k x0 X1 x1 X2 X3 x2 X4 (rawV r) (raw y) w.heap.size wn.heap.size 6) fun K hK => ?_
          clear hdep hfree hsz hops fr oq0 oq1 oq2 oq3 oq4 oq5 oq6 oq7 oq8 oq9 oq10 oq11
          go_simp
          exact hK (.agg #[.bool x0, .slice X1 x1 X2, .slice X3 x2 X4]) _ (zcj (zak _ _)) hJ rfl
        | 7, _, hi, hXi, hP =>
          obtain rfl := Option.some.inj (oq7.symm.trans hi)
          have d51 : (T.getD 51 undef) = .agg #[.bool x0, .slice X1 x1 X2, .slice X3 x2 X4] := (hdep 6 _ (odt (by kernel_rfl)) oq6).2
          have e51 := zan (by omega) d51
          clear d51
          refine zaj rfl ?_
          refine zao (E := fun w' => stepW wn.heap.size 7 W w') (Φ := PhiW u9 R1 m R2 b3 o3 n cB k x0 X1 x1 X2 X3 x2 X4 (rawV r) (raw y) w.heap.size wn.heap.size 7) fun K hK => ?_
          clear hdep hfree hsz hops fr oq0 oq1 oq2 oq3 oq4 oq5 oq6 oq7 oq8 oq9 oq10 oq11
          go_simp
          exact hK (.slice (some ⟨W.heap.size, 0, none⟩) 1 1) _ (zcj (zdh _ _ _)) (stepW_below hJ hJ.size (zcj (k := 0) (zdh _ _ _))) fun _ => ⟨W.heap.size, rfl, hJ.size, heap_alloc_new _ _⟩
        | 8, _, hi, hXi, hP =>
          obtain rfl := Option.some.inj (oq8.symm.trans hi)
          have d47 : ((X 8 = none → OwnS 3 50 IsR W wn.heap.size (fun b => b < w.heap.size) (T.getD 47 undef) (rawV r)) ∧ (∀ b, (T.getD 47 undef).ownBlock = some b → wn.heap.size ≤ b)) := (hdep 2 _ (odt (by kernel_rfl)) oq2).2
          obtain ⟨v47, e47, g47⟩ := zci (T := T) (t := 47) (by omega)
          rw [g47] at d47
          clear g47
          have d52 : (X 8 = none → NewRow W wn.heap.size 50 [.bool x0, .slice X1 x1 X2, .slice X3 x2 X4] (T.getD 52 undef)) := (hdep 7 _ (odt (by kernel_rfl)) oq7).2
          obtain ⟨v52, e52, g52⟩ := zci (T := T) (t := 52) (by omega)
          rw [g52] at d52
          clear g52
          refine zaj rfl ?_
          refine zao (E := fun w' => stepW wn.heap.size 8 W w') (Φ := PhiW u9 R1 m R2 b3 o3 n cB k x0 X1 x1 X2 X3 x2 X4 (rawV r) (raw y) w.heap.size wn.heap.size 8) fun K hK => ?_
          clear hdep hfree hsz hops fr oq0 oq1 oq2 oq3 oq4 oq5 oq6 oq7 oq8 oq9 oq10 oq11
          obtain ⟨h52, rfl, hh1, hh2⟩ := d52 hXi
          refine step_appG elR (.tmp 47) (.tmp 52) rfl IsR.stb (zei e47) (zei e52) (ev := .agg #[.bool x0, .slice X1 x1 X2, .slice X3 x2 X4]) (y := raw y) hh2 (d47.1 hXi) (IsR.stb.to EYn.out (T := fun b => b < w.heap.size) fun b hb => ⟨hb, fun o => hJ.cell (p := ⟨b, o, none⟩) (Nat.lt_of_lt_of_le hb hlw)⟩) rfl (by intro u hu; simp [Value.cells] at hu; rcases hu with rfl | rfl | rfl <;> rfl) (by rw [zbn, Er.out]; omega) hJ.size fun v' w' h1 h2 h3 => hK v' w' ⟨_, h2, .inr ⟨rfl, d47.2⟩⟩ (stepW_below hJ hJ.size ⟨_, h2, .inr ⟨rfl, d47.2⟩⟩) ⟨h1, fun b e => (by have e : v'.ownBlock = some b := e; rcases h3 with h3 | h3; exact d47.2 b (by rw [← h3]; exact e); rw [h3] at e; cases e; exact hJ.size)⟩
        | 9, _, hi, hXi, hP =>
          obtain rfl := Option.some.inj (oq9.symm.trans hi)
          have d53 : (OwnS 3 50 IsR W wn.heap.size (fun b => b < w.heap.size) (T.getD 53 undef) (rawV r ++ [raw y]) ∧ (∀ b, (T.getD 53 undef).ownBlock = some b → wn.heap.size ≤ b)) := (hdep 8 _ (odt (by kernel_rfl)) oq8).2
          obtain ⟨v53, e53, g53⟩ := zci (T := T) (t := 53) (by omega)
          rw [g53] at d53
          clear g53
          have x53' : X 8 = some v53 := by have h := (hdep 8 _ (odt (by kernel_rfl)) oq8).1; rw [h]; exact congrArg some (zei e53)
          refine zaj rfl ?_
          refine zao (E := fun w' => stepW wn.heap.size 9 W w') (Φ := PhiW u9 R1 m R2 b3 o3 n cB k x0 X1 x1 X2 X3 x2 X4 (rawV r) (raw y) w.heap.size wn.heap.size 9) fun K hK => ?_
          clear hdep hfree hsz hops fr oq0 oq1 oq2 oq3 oq4 oq5 oq6 oq7 oq8 oq9 oq10 oq11
          obtain ⟨A7, c7, h7⟩ := d53.1.slice
          obtain ⟨l7, hl7⟩ : ∃ x, x = (rawV r ++ [raw y]).length := ⟨_, rfl⟩
          rw [← hl7] at h7
          subst h7
          clear hl7
          go_simp
          exact hK (.slice (some ⟨W.heap.size, 0, none⟩) 1 1) _ (zcj (zdh _ _ _)) (stepW_below hJ hJ.size (zcj (k := 0) (zdh _ _ _))) ⟨_, x53', W.heap.size, rfl, hJ.size, heap_alloc_new _ _⟩
        | i + 10, hin, hi, hXi, hP => exact absurd hin (by omega)
      case fin =>
        intro a W X hsz hdf hJ hfree hall
        obtain ⟨⟨l⟩, df⟩ := a
        replace hsz : l.length = 114 := hsz
        obtain ⟨fs, rfl⟩ := open114 hsz
        obtain rfl : df = [] := hdf
        have bs0 : fs 0 = .slice (some ⟨b2, o2, none⟩) n c := Option.some.inj (hfree 0 (fr 0 (by kernel_rfl)))
        have bs1 : fs 1 = .slice (some ⟨b3, o3, none⟩) n cB := Option.some.inj (hfree 1 (fr 1 (by kernel_rfl)))
        have bs2 : fs 2 = undef := Option.some.inj (hfree 2 (fr 2 (by kernel_rfl)))
        have bs3 : fs 3 = undef := Option.some.inj (hfree 3 (fr 3 (by kernel_rfl)))
        have bs4 : fs 4 = .slice none 0 0 := Option.some.inj (hfree 4 (fr 4 (by kernel_rfl)))
        have bs5 : fs 5 = .int .i64 0 := Option.some.inj (hfree 5 (fr 5 (by kernel_rfl)))
        have bs6 : fs 6 = .int .i64 0 := Option.some.inj (hfree 6 (fr 6 (by kernel_rfl)))
        have bs7 : fs 7 = .int .i64 0 := Option.some.inj (hfree 7 (fr 7 (by kernel_rfl)))
        have bs8 : fs 8 = .int .i64 (m : Int) := Option.some.inj (hfree 8 (fr 8 (by kernel_rfl)))
        have bs9 : fs 9 = u9 := Option.some.inj (hfree 9 (fr 9 (by kernel_rfl)))
        have bs10 : fs 10 = .int .i64 (k : Int) := Option.some.inj (hfree 10 (fr 10 (by kernel_rfl)))
        have bs11 : fs 11 = .slice R1 m R2 := Option.some.inj (hfree 11 (fr 11 (by kernel_rfl)))
        have bs12 : fs 12 = undef := Option.some.inj (hfree 12 (fr 12 (by kernel_rfl)))
        have bs13 : fs 13 = undef := Option.some.inj (hfree 13 (fr 13 (by kernel_rfl)))
        have bs14 : fs 14 = undef := Option.some.inj (hfree 14 (fr 14 (by kernel_rfl)))
        have bs15 : fs 15 = undef := Option.some.inj (hfree 15 (fr 15 (by kernel_rfl)))
        have bs16 : fs 16 = undef := Option.some.inj (hfree 16 (fr 16 (by kernel_rfl)))
        have bs17 : fs 17 = undef := Option.some.inj (hfree 17 (fr 17 (by kernel_rfl)))
        have bs18 : fs 18 = .slice (some ⟨b2, o2, none⟩) n c := Option.some.inj (hfree 18 (fr 18 (by kernel_rfl)))
        have bs19 : fs 19 = .int .i64 0 := Option.some.inj (hfree 19 (fr 19 (by kernel_rfl)))
        have bs20 : fs 20 = .int .i64 0 := Option.some.inj (hfree 20 (fr 20 (by kernel_rfl)))
        have bs21 : fs 21 = .bool false := Option.some.inj (hfree 21 (fr 21 (by kernel_rfl)))
        have bs22 : fs 22 = undef := Option.some.inj (hfree 22 (fr 22 (by kernel_rfl)))
        have bs23 : fs 23 = .slice (some ⟨b3, o3, none⟩) n cB := Option.some.inj (hfree 23 (fr 23 (by kernel_rfl)))
        have bs24 : fs 24 = .int .i64 0 := Option.some.inj (hfree 24 (fr 24 (by kernel_rfl)))
        have bs25 : fs 25 = .int .i64 0 := Option.some.inj (hfree 25 (fr 25 (by kernel_rfl)))
        have bs26 : fs 26 = .bool false := Option.some.inj (hfree 26 (fr 26 (by kernel_rfl)))
        have bs27 : fs 27 = undef := Option.some.inj (hfree 27 (fr 27 (by kernel_rfl)))
        have bs28 : fs 28 = .slice (some ⟨b2, o2, none⟩) n c := Option.some.inj (hfree 28 (fr 28 (by kernel_rfl)))
        have bs29 : fs 29 = .int .i64 (n : Int) := Option.some.inj (hfree 29 (fr 29 (by kernel_rfl)))
        have bs30 : fs 30 = .slice (some ⟨b3, o3, none⟩) n cB := Option.some.inj (hfree 30 (fr 30 (by kernel_rfl)))
        have bs31 : fs 31 = .int .i64 (n : Int) := Option.some.inj (hfree 31 (fr 31 (by kernel_rfl)))
        have bs32 : fs 32 = .bool false := Option.some.inj (hfree 32 (fr 32 (by kernel_rfl)))
        have bs33 : fs 33 = .slice (some ⟨b2, o2, none⟩) n c := Option.some.inj (hfree 33 (fr 33 (by kernel_rfl)))
        have bs34 : fs 34 = .int .i64 (m : Int) := Option.some.inj (hfree 34 (fr 34 (by kernel_rfl)))
        have bs35 : fs 35 = .slice (some ⟨b2, o2, none⟩) n c := Option.some.inj (hfree 35 (fr 35 (by kernel_rfl)))
        have bs36 : fs 36 = .int .i64 (n : Int) := Option.some.inj (hfree 36 (fr 36 (by kernel_rfl)))
        have bs37 : fs 37 = v0 := Option.some.inj (hfree 37 (fr 37 (by kernel_rfl)))
        have bs38 : fs 38 = .slice (some ⟨b2, o2, none⟩) n c := Option.some.inj (hfree 38 (fr 38 (by kernel_rfl)))
        have bs39 : fs 39 = .int .i64 (n : Int) := Option.some.inj (hfree 39 (fr 39 (by kernel_rfl)))
        have bs40 : fs 40 = .int .i64 (k : Int) := Option.some.inj (hfree 40 (fr 40 (by kernel_rfl)))
        have bs57 : fs 57 = undef := Option.some.inj (hfree 57 (fr 57 (by kernel_rfl)))
        have bs58 : fs 58 = undef := Option.some.inj (hfree 58 (fr 58 (by kernel_rfl)))
        have bs59 : fs 59 = undef := Option.some.inj (hfree 59 (fr 59 (by kernel_rfl)))
        have bs60 : fs 60 = undef := Option.some.inj (hfree 60 (fr 60 (by kernel_rfl)))
        have bs61 : fs 61 = undef := Option.some.inj (hfree 61 (fr 61 (by kernel_rfl)))
        have bs62 : fs 62 = undef := Option.some.inj (hfree 62 (fr 62 (by kernel_rfl)))
        have bs63 : fs 63 = undef := Option.some.inj (hfree 63 (fr 63 (by kernel_rfl)))
        have bs64 : fs 64 = undef := Option.some.inj (hfree 64 (fr 64 (by kernel_rfl)))
        have bs65 : fs 65 = undef := Option.some.inj (hfree 65 (fr 65 (by kernel_rfl)))
        have bs66 : fs 66 = undef := Option.some.inj (hfree 66 (fr 66 (by kernel_rfl)))
        have bs67 : fs 67 = undef := Option.some.inj (hfree 67 (fr 67 (by kernel_rfl)))
        have bs68 : fs 68 = undef := Option.some.inj (hfree 68 (fr 68 (by kernel_rfl)))
        have bs69 : fs 69 = undef := Option.some.inj (hfree 69 (fr 69 (by kernel_rfl)))
        have bs70 : fs 70 = undef := Option.some.inj (hfree 70 (fr 70 (by kernel_rfl)))
        have bs71 : fs 71 = undef := Option.some.inj (hfree 71 (fr 71 (by kernel_rfl)))
        have bs72 : fs 72 = undef := Option.some.inj (hfree 72 (fr 72 (by kernel_rfl)))
        have bs73 : fs 73 = undef := Option.some.inj (hfree 73 (fr 73 (by kernel_rfl)))
        have bs74 : fs 74 = undef := Option.some.inj (hfree 74 (fr 74 (by kernel_rfl)))
        have bs75 : fs 75 = undef := Option.some.inj (hfree 75 (fr 75 (by kernel_rfl)))
        have bs76 : fs 76 = undef := Option.some.inj (hfree 76 (fr 76 (by kernel_rfl)))
        have bs77 : fs 77 = undef := Option.some.inj (hfree 77 (fr 77 (by kernel_rfl)))
        have bs78 : fs 78 = undef := Option.some.inj (hfree 78 (fr 78 (by kernel_rfl)))
        have bs79 : fs 79 = undef := Option.some.inj (hfree 79 (fr 79 (by kernel_rfl)))
        have bs80 : fs 80 = undef := Option.some.inj (hfree 80 (fr 80 (by kernel_rfl)))
        have bs81 : fs 81 = undef := Option.some.inj (hfree 81 (fr 81 (by kernel_rfl)))
        have bs82 : fs 82 = undef := Option.some.inj (hfree 82 (fr 82 (by kernel_rfl)))
        have bs83 : fs 83 = undef := Option.some.inj (hfree 83 (fr 83 (by kernel_rfl)))
        have bs84 : fs 84 = undef := Option.some.inj (hfree 84 (fr 84 (by kernel_rfl)))
        have bs85 : fs 85 = undef := Option.some.inj (hfree 85 (fr 85 (by kernel_rfl)))
        have bs86 : fs 86 = undef := Option.some.inj (hfree 86 (fr 86 (by kernel_rfl)))
        have bs87 : fs 87 = undef := Option.some.inj (hfree 87 (fr 87 (by kernel_rfl)))
        have bs88 : fs 88 = undef := Option.some.inj (hfree 88 (fr 88 (by kernel_rfl)))
        have bs89 : fs 89 = undef := Option.some.inj (hfree 89 (fr 89 (by kernel_rfl)))
        have bs90 : fs 90 = undef := Option.some.inj (hfree 90 (fr 90 (by kernel_rfl)))
        have bs91 : fs 91 = undef := Option.some.inj (hfree 91 (fr 91 (by kernel_rfl)))
        have bs92 : fs 92 = undef := Option.some.inj (hfree 92 (fr 92 (by kernel_rfl)))
        have bs93 : fs 93 = undef := Option.some.inj (hfree 93 (fr 93 (by kernel_rfl)))
        have bs94 : fs 94 = undef := Option.some.inj (hfree 94 (fr 94 (by kernel_rfl)))
        have bs95 : fs 95 = undef := Option.some.inj (hfree 95 (fr 95 (by kernel_rfl)))
        have bs96 : fs 96 = undef := Option.some.inj (hfree 96 (fr 96 (by kernel_rfl)))
        have bs97 : fs 97 = undef := Option.some.inj (hfree 97 (fr 97 (by kernel_rfl)))
        have bs98 : fs 98 = undef := Option.some.inj (hfree 98 (fr 98 (by kernel_rfl)))
        have bs99 : fs 99 = undef := Option.some.inj (hfree 99 (fr 99 (by kernel_rfl)))
        have bs100 : fs 100 = undef := Option.some.inj (hfree 100 (fr 100 (by kernel_rfl)))
        have bs101 : fs 101 = undef := Option.some.inj (hfree 101 (fr 101 (by kernel_rfl)))
        have bs102 : fs 102 = undef := Option.some.inj (hfree 102 (fr 102 (by kernel_rfl)))
        have bs103 : fs 103 = undef := Option.some.inj (hfree 103 (fr 103 (by kernel_rfl)))
        have bs104 : fs 104 = undef := Option.some.inj (hfree 104 (fr 104 (by kernel_rfl)))
        have bs105 : fs 105 = undef := Option.some.inj (hfree 105 (fr 105 (by kernel_rfl)))
        have bs106 : fs 106 = undef := Option.some.inj (hfree 106 (fr 106 (by kernel_rfl)))
        have bs107 : fs 107 = undef := Option.some.inj (hfree 107 (fr 107 (by kernel_rfl)))
        have bs108 : fs 108 = undef := Option.some.inj (hfree 108 (fr 108 (by kernel_rfl)))
        have bs109 : fs 109 = undef := Option.some.inj (hfree 109 (fr 109 (by kernel_rfl)))
        have bs110 : fs 110 = undef := Option.some.inj (hfree 110 (fr 110 (by kernel_rfl)))
        have bs111 : fs 111 = undef := Option.some.inj (hfree 111 (fr 111 (by kernel_rfl)))
        have bs112 : fs 112 = undef := Option.some.inj (hfree 112 (fr 112 (by kernel_rfl)))
        have bs113 : fs 113 = undef := Option.some.inj (hfree 113 (fr 113 (by kernel_rfl)))
        have x45 : X 0 = some (fs 45) := (hall 0 _ (by omega) oq0).1
        have q45 : (fs 45) = u9 := (hall 0 _ (by omega) oq0).2
        clear x45
        have x54 : X 9 = some (fs 54) := (hall 9 _ (by omega) oq9).1
        have q54 : (∃ q, X 8 = some q ∧ NewRow W wn.heap.size 29 [q] (fs 54)) := (hall 9 _ (by omega) oq9).2
        have x53 : X 8 = some (fs 53) := (hall 8 _ (by omega) oq8).1
        have q53 : (OwnS 3 50 IsR W wn.heap.size (fun b => b < w.heap.size) (fs 53) (rawV r ++ [raw y]) ∧ (∀ b, (fs 53).ownBlock = some b → wn.heap.size ≤ b)) := (hall 8 _ (by omega) oq8).2
        clear hall hfree hsz
        rw [hops]
        clear hops fr oq0 oq1 oq2 oq3 oq4 oq5 oq6 oq7 oq8 oq9 oq10 oq11
        rw [bs0, bs1, bs2, bs3, bs4, bs5, bs6, bs7, bs8, bs9, bs10, bs11, bs12, bs13, bs14, bs15, bs16, bs17, bs18, bs19, bs20, bs21, bs22, bs23, bs24, bs25, bs26, bs27, bs28, bs29, bs30, bs31, bs32, bs33, bs34, bs35, bs36, bs37, bs38, bs39, bs40, bs57, bs58, bs59, bs60, bs61, bs62, bs63, bs64, bs65, bs66, bs67, bs68, bs69, bs70, bs71, bs72, bs73, bs74, bs75, bs76, bs77, bs78, bs79, bs80, bs81, bs82, bs83, bs84, bs85, bs86, bs87, bs88, bs89, bs90, bs91, bs92, bs93, bs94, bs95, bs96, bs97, bs98, bs99, bs100, bs101, bs102, bs103, bs104, bs105, bs106, bs107, bs108, bs109, bs110, bs111, bs112, bs113, q45]
        clear bs0 bs1 bs2 bs3 bs4 bs5 bs6 bs7 bs8 bs9 bs10 bs11 bs12 bs13 bs14 bs15 bs16 bs17 bs18 bs19 bs20 bs21 bs22 bs23 bs24 bs25 bs26 bs27 bs28 bs29 bs30 bs31 bs32 bs33 bs34 bs35 bs36 bs37 bs38 bs39 bs40 bs57 bs58 bs59 bs60 bs61 bs62 bs63 bs64 bs65 bs66 bs67 bs68 bs69 bs70 bs71 bs72 bs73 bs74 bs75 bs76 bs77 bs78 bs79 bs80 bs81 bs82 bs83 bs84 bs85 bs86 bs87 bs88 bs89 bs90 bs91 bs92 bs93 bs94 bs95 bs96 bs97 bs98 bs99 bs100 bs101 bs102 bs103 bs104 bs105 bs106 bs107 bs108 bs109 bs110 bs111 bs112 bs113 q45
        obtain ⟨t54, ht54⟩ : ∃ t, t = fs 54 := ⟨_, rfl⟩
        rw [← ht54] at q54 x54 ⊢
        clear ht54
        obtain ⟨t53, ht53⟩ : ∃ t, t = fs 53 := ⟨_, rfl⟩
        rw [← ht53] at q53 x53 ⊢
        clear ht53
        obtain ⟨q, hq, h9, rfl, hh1, hh2⟩ := q54
        have hqt : q = t53 := by rw [x53] at hq; cases hq; rfl
        subst hqt
        clear hq x53 x54
        have hszW := hJ.size
        have OwnW : Hid (OwnS 1 29 IsV W w2.heap.size (fun b => S b ∨ (wn.heap.size ≤ b ∧ b < W.heap.size)) u9 (rawM (zdr M b k))) := OwnS.step IsV.stb hown.out hJ (fun b h => .inl h) (fun b h => h)
        have ElW : Hid (IsV W (fun b => S b ∨ (wn.heap.size ≤ b ∧ b < W.heap.size)) q (rawV (M.getD k [] ++ [b.getD k 0]))) := by
          have h := q53.1.isS IsR.stb (T := fun b => S b ∨ (wn.heap.size ≤ b ∧ b < W.heap.size)) (fun b h => .inl (hS.out b h)) (fun b h1 h2 => .inr ⟨h1, h2⟩)
          rw [← show rawV (M.getD k [] ++ [b.getD k 0]) = rawV r ++ [raw y] by rw [List.getD_eq_getElem?_getD, Hr.out, List.getD_eq_getElem?_getD, Hy.out, rawV_app]; rfl] at h
          exact h
        obtain ⟨A7, c7, h7⟩ := q53.1.slice
        subst h7
        have hbaseW : w2.heap.size ≤ W.heap.size := by have := hzr.out; omega
        have HWW := Lib.hid (zaa HW.out hJ)
        clear q53
        show wpList _ _ _ [_, _] _ _
        refine wpList_plain rfl fun K hK => step_appG elV (.tmp 45) (.tmp 54) rfl IsV.stb rfl rfl hh2 OwnW.out ElW.out rfl (by intro u hu; simp [Value.cells] at hu; subst hu; rfl) (by rw [zbs, wideB_len]; omega) hbaseW fun v7 w7 hown7 hg7 hv7 => hK _ _ ?_
        have HW7 : Hid (Below w.heap.size w w7) := HWW.out.grown hg7 HWW.out.size fun x e => by have := (OwnW.out.own_lt x e).1; omega
        have hz7 := hg7.size
        clear hg7 hv7 hh2 hh1
        go_wp2_with fail
        go_roundw
        case rel =>
          refine ⟨k + 1, fun b => S b ∨ (wn.heap.size ≤ b ∧ b < W.heap.size), hlt, by go_num, HW7.out, ?_, fun b h => .inl (hS.out b h), Nat.le_trans hbaseW hz7⟩
          rw [wideB_snoc, rawM_one]
          exact hown7
        case measure => simp [intOf]; omega
    · obtain rfl : k = n := by omega
      have hkn : ¬ k < k := by omega
      have HI : Hid (IsM wn (Old wn) u9 (rawM (zdr M b k))) := hown.out.isS IsV.stb (fun b h => by obtain ⟨_, _, _, _, h4⟩ := hown.out; exact (h4 b h).1) (fun b _ h => h)
      obtain ⟨A9, c9, rfl⟩ := hown.out.slice
      have hBi := Lib.hid (Bru.next HB.out hbw)
      have hwr := wideB_row Hn.out Hbl.out Hrow.out Hs.out Hsb.out (Nat.le_refl k)
      have hc := reduced_l HI.out hBi.out (wideB_len M b k) (fun r h => (hwr r h).1) (fun r h => (hwr r h).2) hn1 (by omega) (by omega) (by omega) (width := m) (by omega) Hbnd.out
      rw [← Hsr.out] at hc
      have Hc := Lib.hid hc
      clear hc hwr hbw hown
      go_wp2_with fail
      refine Hc.out.mono ?_
      rintro e w4 ⟨⟨v4, rfl, hg⟩, hb4⟩
      obtain ⟨G, r0, c0, S', rb, cp, Pv, D, cv, cd, rfl, hGr⟩ := hg
      have hG4 := hGr
      have HW4 := Lib.hid (zaa HW.out hb4)
      obtain ⟨np, hnp⟩ : ∃ x, x = s.piv.length := ⟨_, rfl⟩
      have Hnp := Lib.hid hnp
      have hlp : np ≤ k := by rw [hnp, Hsr.out]; exact runK_len m
      have g0 := hGr.row.cell 0
      have g1 := hGr.row.cell 1
      simp at g0 g1
      rw [← hnp] at g1
      have hnp0 : (0 : Int) ≤ (np : Int) := by omega
      have hnp1 : (np : Int) ≤ (k : Int) := by omega
      have HG := Lib.hid hG4
      clear hb4 hGr hG4 Hc hnp
      go_wp2_with fail
      go_quiet (fail)
      obtain ⟨wq, hwq⟩ : ∃ x, x = w4.drewN nq := ⟨_, rfl⟩
      have hbq : Below w4.heap.size w4 wq := by rw [hwq]; exact below_drewN (Below.refl _ _) nq
      rw [← hwq]
      have HQ4 := Lib.hid (zaa HW4.out hbq)
      have HBq := Lib.hid hbq
      clear hbq hwq g0 g1
      go_wp2_with fail
      all_goals
        obtain ⟨q, hq⟩ : ∃ q, q = k - np := ⟨_, rfl⟩
        have Hq := Lib.hid hq
        rw [← hq]
        clear hq
        go_loopw [71, 14] (fun ii _ wr => ∃ i : Nat, i ≤ q ∧ ii = .int .i64 (i : Int) ∧ Below wq.heap.size wq wr ∧ Hid (∀ x, np ≤ x → x < np + i → s.A x m = 0)) (fun ii _ _ => q - (intOf ii).toNat)
        case atStart => exact ⟨0, Nat.zero_le _, rfl, Below.refl _ _, fun x h1 h2 => by omega⟩
        case round =>
          obtain ⟨i, hi, rfl, hbr, hz⟩ := hrel
          have HBr := Lib.hid (zaa HBq.out hbr)
          have Hbr := Lib.hid hbr
          rcases Nat.lt_or_ge i q with hlt | hge
          · have hxk : np + i < k := by have := Hq.out; omega
            have hcq : ¬ k ≤ np := by omega
            have hcap9 := HG.out.cap
            try (exfalso; omega)
            all_goals
              clear hcap9 hcq
              have hM := HG.out.mat.next HBr.out (T := S') (fun b h => h) (fun b h => .inl h)
              have ci := hM.hd (np + i) hxk
              have hcap := hM.cap (np + i) hxk
              obtain ⟨P1, k1, Q1, l1, e0, e1, e2, eq⟩ := hM.el (np + i) m hxk (by omega)
              have QE := Lib.hid (IsQ.stb.to eq (zay (T := Old wr) hM.sS))
              obtain ⟨V, hV⟩ : ∃ x, x = rb (np + i) := ⟨_, rfl⟩
              obtain ⟨cV, hC⟩ : ∃ x, x = cp (np + i) := ⟨_, rfl⟩
              obtain ⟨Az, hAz⟩ : ∃ x, x = s.A (np + i) m := ⟨_, rfl⟩
              rw [← hAz] at e0 e1 QE
              obtain ⟨x0, hx0⟩ : ∃ x, x = decide (Az < 0) := ⟨_, rfl⟩
              obtain ⟨x1, hx1⟩ : ∃ x, x = (lim Az.natAbs).length := ⟨_, rfl⟩
              obtain ⟨x2, hx2⟩ : ∃ x, x = (lim 1).length := ⟨_, rfl⟩
              rw [← hV] at ci e0 e1 e2
              rw [← hC] at ci hcap
              rw [← hx0] at e0 QE
              rw [← hx1] at e1 QE
              rw [← hx2] at e2 QE
              have hcap1 := hcap.1
              have hcap2 : cV ≤ 9223372036854775807 := by have := hcap.2; unfold maxLen at this; omega
              have hm0 : (0 : Int) ≤ (m : Int) := by omega
              have hm1' : (m : Int) < ((m + 1 : Nat) : Int) := by omega
              obtain ⟨sg1, hsg⟩ : ∃ x, x = sgnQ ((Az : Int) : Rat) := ⟨_, rfl⟩
              have Hsg := Lib.hid hsg
              obtain ⟨t, ht⟩ : ∃ t : Bool, t = decide (Az = 0) := ⟨_, rfl⟩
              have ht2 : (sg1 == 0) = t := by rw [hsg, ht]; exact sgn_eq0 _
              have ht3 : (sg1 != 0) = !t := by rw [← ht2]; rfl
              have Ht := Lib.hid ht
              have HAz := Lib.hid hAz
              have cr := zbr
              clear hM eq hV hC hx0 hx1 hx2 hsg ht hcap hAz hbr
              cases t with
              | true =>
                go_wp2_with fail
                refine (sign_q QE.out).mono ?_
                rw [← Hsg.out]
                rintro e w5 ⟨rfl, hb5⟩
                have Hb5 := Lib.hid (zaa Hbr.out hb5)
                clear hb5 ci e0 e1 e2
                go_wp2_with fail
                go_roundw
                case rel => exact ⟨i + 1, hlt, by go_num, Hb5.out, fun x h1 h2 => (Nat.lt_or_ge x (np + i)).elim (fun h => hz.out x h1 h) (fun h => by have e : x = np + i := (by omega); rw [e, ← HAz.out]; exact of_decide_eq_true Ht.out.symm)⟩
                case measure => simp [intOf]; omega
              | false =>
                go_wp2_with fail
                refine (sign_q QE.out).mono ?_
                rw [← Hsg.out]
                rintro e w5 ⟨rfl, hb5⟩
                have Hb5 := Lib.hid (zaa HQ4.out (zaa Hbr.out hb5))
                clear hb5 ci e0 e1 e2
                go_wp2_with fail
                go_ret2
                refine ⟨⟨fun _ => rfl, fun h => absurd ⟨np + i, by rw [← Hnp.out]; omega, hxk, by rw [← HAz.out]; exact of_decide_eq_false Ht.out.symm⟩ h⟩, Hb5.out⟩
          · obtain rfl : i = q := by omega
            have hii : ¬ i < i := by omega
            have Hno : Hid (¬ noneS s k m) := by
              rintro ⟨x, h1, h2, h3⟩
              exact h3 (hz.out x (by rw [Hnp.out]; exact h1) (by have := Hq.out; omega))
            have HWx := Lib.hid (zaa HW4.out HBr.out)
            clear hbr hz
            go_wp2_with (at_make; refine zdl elR rfl _ _ rfl IsR m rfl rfl rfl (by omega) (base := wr.heap.size) (S := fun _ => False) (Nat.le_refl _) (fun b h => h.elim) ?_; intro v6 w6 hown6 hb6 hz6)
            have O6 := Lib.hid hown6
            have HB6 := Lib.hid hb6
            obtain ⟨wy, hwy⟩ : ∃ x, x = wr := ⟨_, rfl⟩
            rw [← hwy] at O6 HB6 HWx HBr
            clear hown6 hb6 hz6 hwy
            go_loopw [85, 15] (fun jj ov wr => ∃ (j : Nat) (S2 : Nat → Prop), j ≤ m ∧ jj = .int .i64 (j : Int) ∧ Below wy.heap.size wy wr ∧ Hid (OwnS 3 50 IsR wr wy.heap.size S2 ov (rawV (List.replicate j 0)))) (fun jj _ _ => m - (intOf jj).toNat)
            case atStart => exact ⟨0, fun _ => False, Nat.zero_le _, rfl, HB6.out, O6.out⟩
            case round =>
              obtain ⟨j, S2, hj, rfl, hbw, hown⟩ := hrel
              have HWr := Lib.hid hbw
              rcases Nat.lt_or_ge j m with hlt | hge
              · clear hbw
                go_wp2_with fail
                refine (zero_q _).mono ?_
                rintro e w7 ⟨⟨v7, rfl, hv7⟩, hb7⟩
                obtain ⟨s7, P7, k7, O7, l7, rfl, _, _, _⟩ := zam hv7
                obtain ⟨z1, hz1⟩ : ∃ z, z = (lim (0 : Rat).num.natAbs).length := ⟨_, rfl⟩
                obtain ⟨z2, hz2⟩ : ∃ z, z = (lim (0 : Rat).den).length := ⟨_, rfl⟩
                rw [← hz1, ← hz2] at hv7 ⊢
                have Own7 := Lib.hid (OwnS.step IsR.stb (T := fun b => S2 b ∨ (wr.heap.size ≤ b ∧ b < w7.heap.size)) hown.out hb7 (fun b h => .inl h) (fun b h => h))
                have El7 : Hid (IsR w7 (fun b => S2 b ∨ (wr.heap.size ≤ b ∧ b < w7.heap.size)) (.agg #[.bool s7, .slice P7 z1 k7, .slice O7 z2 l7]) (raw 0)) := IsQ.stb.to hv7 (zay fun b h => .inr h)
                have HW7 := Lib.hid (zaa HWr.out hb7)
                have hbase : wy.heap.size ≤ w7.heap.size := HW7.out.size
                clear hv7 hb7 hz1 hz2
                go_wp2_with (at_builtin; refine zcp elR rfl _ _ rfl IsR.stb rfl rfl rfl Own7.out El7.out rfl (by intro u hu; simp [Value.cells] at hu; rcases hu with rfl | rfl | rfl <;> rfl) (by rw [zbn, List.length_replicate]; omega) hbase ?_; intro v8 w8 hown8 hb8 hz8)
                go_roundw
                case rel =>
                  refine ⟨j + 1, fun b => S2 b ∨ (wr.heap.size ≤ b ∧ b < w7.heap.size), hlt, by go_num, HW7.out.trans hb8, ?_⟩
                  rw [List.replicate_succ', rawV_app]
                  exact hown8
                case measure => simp [intOf]; omega
              · obtain rfl : j = m := by omega
                have hjj : ¬ j < j := by omega
                have hG := HG.out
                have g1 := (hG.row.next (zaa HBr.out hbw)).cell 1
                simp at g1
                rw [← Hnp.out] at g1
                have OX := Lib.hid hown.out
                have HWz := Lib.hid (zaa HWx.out hbw)
                have HGz := Lib.hid (zaa HBr.out hbw)
                clear hbw hown hG
                go_wp2_with fail
                clear g1
                have hlr : (rawV (List.replicate j (0 : Rat))).length = j := by rw [zbn, List.length_replicate]
                obtain ⟨g, c15, cur15, es15, h15, hg15, hcur15, _, _, _⟩ := OX.out.shape (fun e => by rw [e] at hlr; simp at hlr; omega)
                rw [hlr] at h15
                subst h15
                go_loopw [97, 16, 17] (fun ii _ _ wr => ∃ (t : Nat) (S3 : Nat → Prop), t ≤ np ∧ ii = .int .i64 (t : Int) ∧ Below wy.heap.size wy wr ∧ Hid (OwnS 3 50 IsR wr wy.heap.size S3 (.slice (some ⟨g, 0, none⟩) j c15) (rawV (zdq s j t)))) (fun ii _ _ _ => np - (intOf ii).toNat)
                case atStart => exact ⟨0, S2, Nat.zero_le _, rfl, HWr.out, OX.out⟩
                case round =>
                  obtain ⟨t, S3, ht, rfl, hbt, hownt⟩ := hrel
                  have HBt := Lib.hid hbt
                  have HGt := Lib.hid (zaa HBr.out hbt)
                  have hG := HG.out
                  have hsl : (rawV (zdq s j t)).length = j := by rw [zbn, solTo_len]
                  rcases Nat.lt_or_ge t np with hlt | hge
                  · obtain ⟨cc, hcc⟩ : ∃ cc, s.piv[t]? = some cc := ⟨_, List.getElem?_eq_getElem (by rw [← Hnp.out]; exact hlt)⟩
                    have hcm : cc < j := by
                      have h := List.mem_of_getElem? hcc
                      rw [Hsr.out] at h
                      exact runK_piv j cc h
                    have hpv := (IsS.stb IsVal.stb).to hG.piv (zba HGt.out)
                    rw [← Hnp.out] at hpv
                    obtain ⟨bp, op, ev, rfl, _, hRe, _, hcell⟩ := IsS.get hpv (by omega) (j := t) (x := .int .i64 (cc : Int)) (by rw [List.getElem?_map, hcc]; rfl)
                    have hRe : ev = .int .i64 (cc : Int) := hRe
                    subst hRe
                    have p0 := hcell 0 _ rfl
                    rw [Nat.mul_one, Nat.add_zero] at p0
                    obtain ⟨b6, c6, cur6, es6, h6, hb6, hcur6, _, _, _, _, h6a, _, _⟩ := hownt.out.shape (fun e => by rw [e] at hsl; simp at hsl; omega)
                    rw [hsl] at h6
                    simp only [Value.slice.injEq, Option.some.injEq, Addr.mk.injEq, and_true, true_and] at h6
                    obtain ⟨rfl, rfl⟩ := h6
                    have hbs := Hbnd.out j (Nat.le_refl j)
                    rw [← Hsr.out] at hbs
                    have Hcc := Lib.hid hcc
                    have Hg6 : Hid (g < wr.heap.size ∧ wy.heap.size ≤ g) := ⟨(Array.getElem?_eq_some_iff.1 hcur6).1, hb6⟩
                    have HF6 : Hid (∃ cu, wr.heap[g]? = some (.cells cu 50 (0, 0))) := ⟨_, hcur6⟩
                    have hc0 : (0 : Int) ≤ (cc : Int) := by omega
                    have hc1 : (cc : Int) < (j : Int) := by omega
                    have hxk : t < k := by omega
                    have hlp2 : s.piv.length ≤ 100 := by rw [← Hnp.out]; omega
                    have hat := at_s (hG.mat.next HGt.out (fun b h => h) (fun b h => .inl h)) (hG.row.next HGt.out) (IsK.stb.to hG.num fun b hb => ⟨hb, fun o => HGt.out.cell (p := ⟨b, o, none⟩) (hG.mat.sS b hb)⟩) (Bru.next HB.out (zaa HWx.out HBt.out)) (by omega) (by omega) hlp2 hxk (Nat.lt_succ_self j) (bnd_len hbs hxk (Nat.lt_succ_self j)) hbs.2.1 (Nat.pos_iff_ne_zero.1 hbs.2.2)
                    rw [← Hnp.out] at hat
                    have Hat := Lib.hid hat
                    clear hcc hpv hcell hcur6 hb6 hbs hat h6a hbt hG
                    go_wp2_with fail
                    refine Hat.out.mono ?_
                    rintro e w7 ⟨⟨v7, rfl, hv7⟩, hb7⟩
                    obtain ⟨s7, P7, k7, O7, l7, rfl, _, _, _⟩ := zam hv7
                    obtain ⟨qq, hqq⟩ : ∃ z, z = atQ s.A np s.d t j := ⟨_, rfl⟩
                    rw [← hqq] at hv7 ⊢
                    obtain ⟨z1, hz1⟩ : ∃ z, z = (lim qq.num.natAbs).length := ⟨_, rfl⟩
                    obtain ⟨z2, hz2⟩ : ∃ z, z = (lim qq.den).length := ⟨_, rfl⟩
                    rw [← hz1, ← hz2] at hv7 ⊢
                    have hT := OwnS.step IsR.stb (T := fun b => S3 b ∨ (wr.heap.size ≤ b ∧ b < w7.heap.size)) hownt.out hb7 (fun b h => .inl h) (fun b h => h)
                    have hE : IsR w7 (fun b => S3 b ∨ (wr.heap.size ≤ b ∧ b < w7.heap.size)) (.agg #[.bool s7, .slice P7 z1 k7, .slice O7 z2 l7]) (raw qq) := IsQ.stb.to hv7 (zay fun b h => .inr h)
                    obtain ⟨yy, hyy⟩ : ∃ yy, (rawV (zdq s j t))[cc]? = some yy := ⟨_, List.getElem?_eq_getElem (by rw [hsl]; exact hcm)⟩
                    obtain ⟨gb, gO, ev2, hA2, _, hR2, _, hcell2⟩ := IsS.get (hT.isS IsR.stb (T := fun _ => True) (fun b h => trivial) (fun b _ h => trivial)) (by omega) hyy
                    cases hA2
                    obtain ⟨a1, a2, a3, a4, rfl, _, _⟩ := hR2
                    have d0 := hcell2 0 _ rfl
                    have d1 := hcell2 1 _ rfl
                    have d2 := hcell2 2 _ rfl
                    rw [Nat.zero_add] at d0 d1 d2
                    rw [Nat.add_zero] at d0
                    have hf : ∀ o, w7.frozen? ⟨g, o, none⟩ = false := fun o => by
                      obtain ⟨cu, hcu⟩ := HF6.out
                      simp [World.frozen?, (hb7.block g Hg6.out.1).trans hcu]
                    have f0 := hf (cc * 3)
                    have f1 := hf (cc * 3 + 1)
                    have f2 := hf (cc * 3 + 2)
                    have OS : Hid (OwnS 3 50 IsR (putE w7 g cc (.bool s7) (.slice P7 z1 k7) (.slice O7 z2 l7)) wy.heap.size (fun b => S3 b ∨ (wr.heap.size ≤ b ∧ b < w7.heap.size)) (.slice (some ⟨g, 0, none⟩) j c15) (rawV (zdq s j (t + 1)))) := by
                      have h := OwnS.set3 IsR.stb (g := g) (cap := c15) (l := rawV (zdq s j t)) (by rw [hsl]; exact hT) (j := cc) (by rw [hsl]; exact hcm) hE
                      rw [List.length_set, hsl] at h
                      have e : rawV (zdq s j (t + 1)) = (rawV (zdq s j t)).set cc (raw qq) := by
                        rw [zdq, rawV, List.map_set, List.getD_eq_getElem?_getD, Hcc.out, Option.getD_some, ← Hnp.out, ← hqq]
                        rfl
                      rw [Hid, e]
                      exact h
                    have HB7 : Hid (Below wy.heap.size wy (putE w7 g cc (.bool s7) (.slice P7 z1 k7) (.slice O7 z2 l7))) := by
                      have h1 := zaa HBt.out hb7
                      exact h1.grown (zes (zak _ _)) h1.size (fun x e => by cases e; exact Hg6.out.2)
                    have cr := zbr
                    clear hT hE hyy hcell2 hf hv7 hb7 hqq hz1 hz2 p0
                    go_wp2_with fail
                    clear d0 d1 d2 f0 f1 f2
                    go_roundw
                    case rel => exact ⟨t + 1, _, hlt, by go_num, HB7.out, OS.out⟩
                    case measure => simp [intOf]; omega
                  · obtain rfl : t = np := by omega
                    have htt : ¬ t < t := by omega
                    have HI8 : Hid (IsV wr (Old wr) (.slice (some ⟨g, 0, none⟩) j c15) (rawV (zdq s j t))) := hownt.out.isS IsR.stb (fun b h => by obtain ⟨_, _, _, _, h4⟩ := hownt.out; exact (h4 b h).1) (fun b _ h => h)
                    clear hbt hG
                    go_wp2_with fail
                    obtain ⟨vv, ee, hbm⟩ := bndV_open (.slice (some ⟨g, 0, none⟩) j c15) (zdq s j t)
                    have Hbm := Lib.hid hbm
                    refine (bounded_l HI8.out).mono ?_
                    rw [hbm]
                    clear hbm
                    rintro e w9 ⟨rfl, hb9⟩
                    have HI9 := Lib.hid (IsV.stb.to HI8.out (zba hb9))
                    have HW9 := Lib.hid (zaa HWx.out (zaa HBt.out hb9))
                    clear hb9
                    go_wp2_with fail
                    go_ret2
                    refine ⟨⟨fun h => absurd h Hno.out, fun _ => ⟨.slice (some ⟨g, 0, none⟩) j c15, ?_, ?_⟩⟩, HW9.out⟩
                    · rw [← Hnp.out]; exact Hbm.out.symm
                    · rw [← Hnp.out]; exact HI9.out
end Go.Proofs.YtjkgdggkgljdoaaDoor
