/-
  An append onto a new slice without room; parlourkit's OwnRat.
-/
import Derived.Test.YtblpaocignlpkaaGreatDoorVect10
import Derived.Test.YtblpaocignlpkaaGreatDoorVect07
import Derived.Test.YtblpaocignlpkaaGreatDoorVect03
import Derived.Test.YtblpaocignlpkaaGreatDoorVect06
import Derived.Test.YtblpaocignlpkaaGreatDoorVect02
import Derived.Test.YtblpaocignlpkaaGreatDoorProofVectorSums03
import Derived.Test.YtblpaocignlpkaaGreatDoorProofVectorSums01
import Derived.Test.YtblpaocignlpkaaGreatDoorVect09
import Derived.Test.YtblpaocignlpkaaGreatDoorVect18
namespace Go.Proofs.YtblpaocignlpkaaGreatDoor
open Go.RowKit
set_option linter.unusedVariables false
theorem run_fresh {P : Program} {t e : TypeId} {bytes : Nat} {k : IntKind} (E : ElT P t e (.int k 0) bytes) (ty : TypeId) (w : World) (g : Nat) {A : Option Addr} {m c : Nat} {l : List Nat} (h : IsK k w (Old w) (.slice A m c) l) (hb : l.length * (bytes + 1) ≤ 140737488355328) :
    ∃ v' w', (Builtin.append_ #[t, t] ty #[.slice (some ⟨g, 0, none⟩) 0 0, .slice A m c]).run P w = .ok v' w' ∧ Below w.heap.size w w' ∧ IsK k w' (New w.heap.size w') v' l := by
  obtain ⟨A', c', hv, h1, h2, h3⟩ := h
  simp only [Value.slice.injEq] at hv
  obtain ⟨rfl, rfl, rfl⟩ := hv
  obtain ⟨i, hi, hz, hsz, hby⟩ := E.info
  rw [Nat.mul_add, Nat.mul_one] at hb
  rcases Nat.eq_zero_or_pos l.length with h0 | h0
  · obtain rfl := List.eq_nil_of_length_eq_zero h0
    refine ⟨.slice (some ⟨g, 0, none⟩) 0 0, w, ?_, Below.refl _ _, some ⟨g, 0, none⟩, 0, rfl, Nat.le_refl _, Nat.zero_le _, SVS.nil⟩
    cases A with
    | none => simp [Builtin.append_, run_underlying E.und, sizeOf, typeInfo, hi, Builtin.lenOf, Builtin.firstCells, storeCells]
    | some a0 =>
      have hr : (loadCells a0 0).run P w = .ok #[] w := run_loadCells_list w a0 [] (fun j v hv => by simp at hv)
      simp [Builtin.append_, run_underlying E.und, sizeOf, typeInfo, hi, Builtin.lenOf, Builtin.firstCells, storeCells, hr]
  · obtain ⟨b, off, rfl, hbS, hc⟩ := h3 (by intro e0; have := congrArg List.length e0; simp [cel] at this; rw [this] at h0; simp at h0)
    have hl1 : (cel k l).length = l.length * i.size := by rw [hsz]; simp [cel]
    have hbs : b < w.heap.size := hbS
    have hcell : ∀ j v, (cel k l)[j]? = some v → w.cell? ((⟨b, off, none⟩ : Addr).add j) = some v := fun j v hv => by rw [Addr.add_lit]; exact hc j v hv
    have hlm : l.length ≤ maxLen := Nat.le_trans h1 h2
    have hrun := run_append_grow (P := P) (w := w) t ty e i (.int k 0) E.und hi hz ⟨g, 0, none⟩ 0 0 [] (by simp) (fun j v hv => by simp at hv) ⟨b, off, none⟩ l.length c (cel k l) hl1 hcell (by omega)
      (by unfold maxLen at hlm; omega) (by rw [Nat.zero_add, nextslicecap_zero h0, hby]; omega)
    rw [Nat.zero_add] at hrun
    obtain ⟨zs, hzs⟩ : ∃ zs, zs = Builtin.zeroCells (Value.int k 0).cells (grownCap w l.length 0 e - l.length) := ⟨_, rfl⟩
    rw [← hzs] at hrun
    obtain ⟨arr, harr⟩ : ∃ arr, arr = (([] : List Value).toArray ++ (cel k l).toArray ++ zs) := ⟨_, rfl⟩
    rw [← harr] at hrun
    refine ⟨_, _, hrun, ?_, ?_⟩
    · exact zah (zab w) _
    · have hge := grownCap_ge w l.length 0 e
      have hcm := grownCap_le_maxLen w l.length 0 e hlm
      refine ⟨some ⟨w.heap.size, 0, none⟩, grownCap w l.length 0 e, rfl, hge, hcm, fun _ => ⟨w.heap.size, 0, rfl, ⟨Nat.le_refl _, by simp⟩, fun j v hv => ?_⟩⟩
      have hj := (List.getElem?_eq_some_iff.1 hv).1
      show (w.drew.alloc (.cells arr e)).cell? _ = _
      have hr : Row (w.drew.alloc (.cells arr e)) w.drew.heap.size e arr.toList := heap_alloc_new w.drew _
      have h1 := hr.cell j
      rw [Nat.zero_add]
      refine h1.trans ?_
      have e1 : arr.toList = cel k l ++ zs.toList := by rw [harr]; simp
      rw [e1, List.getElem?_append_left (by simpa using hj)]
      exact hv
theorem getD_some {T : Array Value} {t : Nat} {v : Value} (h : T[t]? = some v) : T.getD t undef = v := by simp [Array.getD_eq_getD_getElem?, h]
theorem wp_fresh {P : Program} {t e : TypeId} {bytes : Nat} {k : IntKind} (E : ElT P t e (.int k 0) bytes) {w : World} {o : Oper} {a : Act} {K : Act → World → Prop} {Q : Exit → Act → World → Prop} (s x : Operand)
    (ho : o.op = .call { callee := .builtin .append, args := #[s, x], argTypes := #[t, t] }) {g : Nat} {A : Option Addr} {m c : Nat} {l : List Nat} (hs : a.eval s = .slice (some ⟨g, 0, none⟩) 0 0) (hx : a.eval x = .slice A m c)
    (h : IsK k w (Old w) (.slice A m c) l) (hb : l.length * (bytes + 1) ≤ 140737488355328)
    (hK : ∀ v' w', Below w.heap.size w w' → IsK k w' (New w.heap.size w') v' l → K (a.put o.dst v') w') : o.wp P a w K Q := by
  obtain ⟨v', w', hrun, h1, h2⟩ := run_fresh E o.type w g h hb
  unfold Oper.wp execOp
  simp only [ho, resolve, invoke, builtin, Sem.run_bind, Sem.run_pure, Result.andThen_ok, List.map_toArray, List.map_cons, List.map_nil, hs, hx, hrun]
  exact hK v' w' h1 h2
theorem open14 {l : List Value} (h : l.length = 14) : ∃ fs : Nat → Value, l = [fs 0, fs 1, fs 2, fs 3, fs 4, fs 5, fs 6, fs 7, fs 8, fs 9, fs 10, fs 11, fs 12, fs 13] := by
  refine ⟨fun i => l.getD i undef, ?_⟩
  have e : l = (List.range 14).map (fun i => l.getD i undef) := by
    apply List.ext_getElem
    · simp [h]
    · intro i h1 h2
      simp [List.getD_eq_getElem?_getD, List.getElem?_eq_getElem h1]
  exact e.trans rfl
def OwnPhi (w00 : World) (r : Raw) (A : Option Addr) (cA : Nat) (B : Option Addr) (cB : Nat) (n0 : Nat) (i : Nat) (v : Value) (w : World) : Prop :=
  match i with
  | 0 => v = .pointer (some ⟨w00.heap.size, 0, none⟩)
  | 1 => v = .bool r.neg
  | 2 => ∃ g, v = .slice (some ⟨g, 0, none⟩) 0 0
  | 3 => v = .pointer (some ⟨w00.heap.size, 1, none⟩)
  | 4 => v = .slice A r.num.length cA
  | 5 => IsK .u32 w (New n0 w) v r.num
  | 6 => ∃ g, v = .slice (some ⟨g, 0, none⟩) 0 0
  | 7 => v = .pointer (some ⟨w00.heap.size, 2, none⟩)
  | 8 => v = .slice B r.den.length cB
  | 9 => IsK .u32 w (New n0 w) v r.den
  | 10 => IsR w (New n0 w) v r
  | _ => True
theorem ownPhi_stb (w00 : World) (r : Raw) (A : Option Addr) (cA : Nat) (B : Option Addr) (cB : Nat) (n0 : Nat) : ∀ (i : Nat) (v : Value) (w w' : World), OwnPhi w00 r A cA B cB n0 i v w → Below w.heap.size w w' → OwnPhi w00 r A cA B cB n0 i v w' := fun i v w w' h hb => match i, h with
  | 0, h => h
  | 1, h => h
  | 2, h => h
  | 3, h => h
  | 4, h => h
  | 5, h => IsK.stb.fresh h hb
  | 6, h => h
  | 7, h => h
  | 8, h => h
  | 9, h => IsK.stb.fresh h hb
  | 10, h => IsR.stb.fresh h hb
  | _ + 11, _ => trivial
set_option maxRecDepth 100000 in
set_option maxHeartbeats 4000000 in
theorem own_r {w : World} {v : Value} {r : Raw} (h : IsR w (Old w) v r) (hn : r.num.length ≤ 1000) (hd : r.den.length ≤ 1000) :
    Calls Tryz.prog 52 #[v] w fun e w' => (∃ v', e = .returned v' ∧ IsR w' (New w.heap.size w') v' r) ∧ Below w.heap.size w w' := by
  have Hn := Lib.hid hn
  have Hd := Lib.hid hd
  obtain ⟨A, cA, B, cB, rfl, h1, h2⟩ := h
  have HN := Lib.hid h1
  have HD := Lib.hid h2
  clear h1 h2 hn hd
  obtain ⟨w0, hw0, hb0, rA, rZ, Hz⟩ := zdw w #[.bool r.neg, .slice A r.num.length cA, .slice B r.den.length cB] #[.bool false, .slice none 0 0, .slice none 0 0] 31 31
  have HB0 := Lib.hid hb0
  have RA := Lib.hid rA
  have RZ := Lib.hid rZ
  clear hb0 rA rZ
  go_enter Tryz.func52, Tryz.ntmps52
  go_wp2_with fail
  clear hw0
  refine zed fun ops hops => ?_
  have oq0 := zat (j := 0) hops rfl
  have oq1 := zat (j := 1) hops rfl
  have oq2 := zat (j := 2) hops rfl
  have oq3 := zat (j := 3) hops rfl
  have oq4 := zat (j := 4) hops rfl
  have oq5 := zat (j := 5) hops rfl
  have oq6 := zat (j := 6) hops rfl
  have oq7 := zat (j := 7) hops rfl
  have oq8 := zat (j := 8) hops rfl
  have oq9 := zat (j := 9) hops rfl
  have oq10 := zat (j := 10) hops rfl
  have oq11 := zat (j := 11) hops rfl
  have fr := fun t h => slotN_abs (n := 11) hops t h
  refine wp_region_growS 11 (OwnPhi w r A cA B cB w0.heap.size) (by kernel_rfl) (ownPhi_stb w r A cA B cB w0.heap.size) (by rw [hops]; kernel_rfl) ?step ?fin
  case step =>
    intro i o hin hi a W hsz hdf hbw hfree hdep
    obtain ⟨T, df⟩ := a
    replace hsz : T.size = 14 := hsz
    obtain rfl : df = [] := hdf
    match i, hin, hi with
    | 0, _, hi =>
      obtain rfl := Option.some.inj (oq0.symm.trans hi)
      have e1 : T[1]? = some (.pointer (some ⟨w.heap.size, 0, none⟩)) := hfree 1 (fr 1 (by kernel_rfl))
      refine zaf rfl ?_
      clear hdep hfree hsz hops fr oq0 oq1 oq2 oq3 oq4 oq5 oq6 oq7 oq8 oq9 oq10 oq11
      refine zao fun K hK => ?_
      go_simp
      exact hK (.pointer (some ⟨w.heap.size, 0, none⟩)) _ (Below.refl _ _) (rfl)
    | 1, _, hi =>
      obtain rfl := Option.some.inj (oq1.symm.trans hi)
      have e3 : T[3]? = some (.pointer (some ⟨w.heap.size, 0, none⟩)) := zam (by omega) (hdep 0 _ 3 (odt (by kernel_rfl)) oq0 rfl)
      refine zaf rfl ?_
      clear hdep hfree hsz hops fr oq0 oq1 oq2 oq3 oq4 oq5 oq6 oq7 oq8 oq9 oq10 oq11
      obtain ⟨c0, c1, c2⟩ := zac (RA.out.next hbw)
      refine zao fun K hK => ?_
      go_simp
      exact hK (.bool r.neg) _ (Below.refl _ _) (rfl)
    | 2, _, hi =>
      obtain rfl := Option.some.inj (oq2.symm.trans hi)
      refine zaf rfl ?_
      clear hdep hfree hsz hops fr oq0 oq1 oq2 oq3 oq4 oq5 oq6 oq7 oq8 oq9 oq10 oq11
      refine zao fun K hK => ?_
      go_simp
      exact hK (.slice (some ⟨W.heap.size, 0, none⟩) 0 0) _ (zbe _ _) ⟨_, rfl⟩
    | 3, _, hi =>
      obtain rfl := Option.some.inj (oq3.symm.trans hi)
      have e1 : T[1]? = some (.pointer (some ⟨w.heap.size, 0, none⟩)) := hfree 1 (fr 1 (by kernel_rfl))
      refine zaf rfl ?_
      clear hdep hfree hsz hops fr oq0 oq1 oq2 oq3 oq4 oq5 oq6 oq7 oq8 oq9 oq10 oq11
      refine zao fun K hK => ?_
      go_simp
      exact hK (.pointer (some ⟨w.heap.size, 1, none⟩)) _ (Below.refl _ _) (rfl)
    | 4, _, hi =>
      obtain rfl := Option.some.inj (oq4.symm.trans hi)
      have e6 : T[6]? = some (.pointer (some ⟨w.heap.size, 1, none⟩)) := zam (by omega) (hdep 3 _ 6 (odt (by kernel_rfl)) oq3 rfl)
      refine zaf rfl ?_
      clear hdep hfree hsz hops fr oq0 oq1 oq2 oq3 oq4 oq5 oq6 oq7 oq8 oq9 oq10 oq11
      obtain ⟨c0, c1, c2⟩ := zac (RA.out.next hbw)
      refine zao fun K hK => ?_
      go_simp
      exact hK (.slice A r.num.length cA) _ (Below.refl _ _) (rfl)
    | 5, _, hi =>
      obtain rfl := Option.some.inj (oq5.symm.trans hi)
      have d5 : ∃ g, (T.getD 5 undef) = .slice (some ⟨g, 0, none⟩) 0 0 := hdep 2 _ 5 (odt (by kernel_rfl)) oq2 rfl
      obtain ⟨v5, e5, g5⟩ := zby (T := T) (t := 5) (by omega)
      rw [g5] at d5
      clear g5
      have e7 : T[7]? = some (.slice A r.num.length cA) := zam (by omega) (hdep 4 _ 7 (odt (by kernel_rfl)) oq4 rfl)
      refine zaf rfl ?_
      clear hdep hfree hsz hops fr oq0 oq1 oq2 oq3 oq4 oq5 oq6 oq7 oq8 oq9 oq10 oq11
      obtain ⟨g, rfl⟩ := d5
      refine zao fun K hK => ?_
      refine wp_fresh elN (.tmp 5) (.tmp 7) rfl (getD_some e5) (getD_some e7) (IsK.stb.next HN.out (zaa HB0.out hbw)) (by have := Hn.out; have := Hd.out; omega) fun v' w' hb hv => ?_
      exact hK v' w' hb (IsK.stb.le hv hbw.size)
    | 6, _, hi =>
      obtain rfl := Option.some.inj (oq6.symm.trans hi)
      refine zaf rfl ?_
      clear hdep hfree hsz hops fr oq0 oq1 oq2 oq3 oq4 oq5 oq6 oq7 oq8 oq9 oq10 oq11
      refine zao fun K hK => ?_
      go_simp
      exact hK (.slice (some ⟨W.heap.size, 0, none⟩) 0 0) _ (zbe _ _) ⟨_, rfl⟩
    | 7, _, hi =>
      obtain rfl := Option.some.inj (oq7.symm.trans hi)
      have e1 : T[1]? = some (.pointer (some ⟨w.heap.size, 0, none⟩)) := hfree 1 (fr 1 (by kernel_rfl))
      refine zaf rfl ?_
      clear hdep hfree hsz hops fr oq0 oq1 oq2 oq3 oq4 oq5 oq6 oq7 oq8 oq9 oq10 oq11
      refine zao fun K hK => ?_
      go_simp
      exact hK (.pointer (some ⟨w.heap.size, 2, none⟩)) _ (Below.refl _ _) (rfl)
    | 8, _, hi =>
      obtain rfl := Option.some.inj (oq8.symm.trans hi)
      have e10 : T[10]? = some (.pointer (some ⟨w.heap.size, 2, none⟩)) := zam (by omega) (hdep 7 _ 10 (odt (by kernel_rfl)) oq7 rfl)
      refine zaf rfl ?_
      clear hdep hfree hsz hops fr oq0 oq1 oq2 oq3 oq4 oq5 oq6 oq7 oq8 oq9 oq10 oq11
      obtain ⟨c0, c1, c2⟩ := zac (RA.out.next hbw)
      refine zao fun K hK => ?_
      go_simp
      exact hK (.slice B r.den.length cB) _ (Below.refl _ _) (rfl)
    | 9, _, hi =>
      obtain rfl := Option.some.inj (oq9.symm.trans hi)
      have d9 : ∃ g, (T.getD 9 undef) = .slice (some ⟨g, 0, none⟩) 0 0 := hdep 6 _ 9 (odt (by kernel_rfl)) oq6 rfl
      obtain ⟨v9, e9, g9⟩ := zby (T := T) (t := 9) (by omega)
      rw [g9] at d9
      clear g9
      have e11 : T[11]? = some (.slice B r.den.length cB) := zam (by omega) (hdep 8 _ 11 (odt (by kernel_rfl)) oq8 rfl)
      refine zaf rfl ?_
      clear hdep hfree hsz hops fr oq0 oq1 oq2 oq3 oq4 oq5 oq6 oq7 oq8 oq9 oq10 oq11
      obtain ⟨g, rfl⟩ := d9
      refine zao fun K hK => ?_
      refine wp_fresh elN (.tmp 9) (.tmp 11) rfl (getD_some e9) (getD_some e11) (IsK.stb.next HD.out (zaa HB0.out hbw)) (by have := Hn.out; have := Hd.out; omega) fun v' w' hb hv => ?_
      exact hK v' w' hb (IsK.stb.le hv hbw.size)
    | 10, _, hi =>
      obtain rfl := Option.some.inj (oq10.symm.trans hi)
      have e4 : T[4]? = some (.bool r.neg) := zam (by omega) (hdep 1 _ 4 (odt (by kernel_rfl)) oq1 rfl)
      have d8 : IsK .u32 W (New w0.heap.size W) (T.getD 8 undef) r.num := hdep 5 _ 8 (odt (by kernel_rfl)) oq5 rfl
      obtain ⟨v8, e8, g8⟩ := zby (T := T) (t := 8) (by omega)
      rw [g8] at d8
      clear g8
      have d12 : IsK .u32 W (New w0.heap.size W) (T.getD 12 undef) r.den := hdep 9 _ 12 (odt (by kernel_rfl)) oq9 rfl
      obtain ⟨v12, e12, g12⟩ := zby (T := T) (t := 12) (by omega)
      rw [g12] at d12
      clear g12
      refine zaf rfl ?_
      clear hdep hfree hsz hops fr oq0 oq1 oq2 oq3 oq4 oq5 oq6 oq7 oq8 oq9 oq10 oq11
      obtain ⟨A1, k1, rfl, h81, h82, h83⟩ := d8
      obtain ⟨A2, k2, rfl, h121, h122, h123⟩ := d12
      refine zao fun K hK => ?_
      go_simp
      exact hK (.agg #[.bool r.neg, .slice A1 r.num.length k1, .slice A2 r.den.length k2]) _ (Below.refl _ _) ⟨A1, k1, A2, k2, rfl, ⟨A1, k1, rfl, h81, h82, h83⟩, ⟨A2, k2, rfl, h121, h122, h123⟩⟩
    | _ + 11, hin, _ => exact absurd hin (by omega)
  case fin =>
    intro o ho a W hsz hdf hbw hfree hall
    obtain rfl := Option.some.inj (oq11.symm.trans ho)
    obtain ⟨⟨l⟩, df⟩ := a
    replace hsz : l.length = 14 := hsz
    obtain ⟨fs, rfl⟩ := open14 hsz
    obtain rfl : df = [] := hdf
    have bs1 : fs 1 = .pointer (some ⟨w.heap.size, 0, none⟩) := Option.some.inj (hfree 1 (fr 1 (by kernel_rfl)))
    have bs2 : fs 2 = .pointer (some ⟨w.heap.size + 1, 0, none⟩) := Option.some.inj (hfree 2 (fr 2 (by kernel_rfl)))
    have q13 : IsR W (New w0.heap.size W) (fs 13) r := hall 10 _ 13 (by omega) oq10 rfl
    clear hops fr oq0 oq1 oq2 oq3 oq4 oq5 oq6 oq7 oq8 oq9 oq10 oq11
    clear hall hfree hsz ho
    rw [bs1, bs2]
    clear bs1 bs2
    obtain ⟨t13, ht13⟩ : ∃ t, t = fs 13 := ⟨_, rfl⟩
    rw [← ht13] at q13 ⊢
    clear ht13
    have RZ' := Lib.hid (RZ.out.next hbw)
    obtain ⟨d0, d1, d2⟩ := zac RZ'.out
    obtain ⟨f0, f1, f2⟩ := zaq RZ'.out
    obtain ⟨A1, k1, A2, k2, rfl, h3, h4⟩ := q13
    have hz := Hz.out
    have hB := Lib.hid (zaa HB0.out hbw)
    have H3 := Lib.hid h3
    have H4 := Lib.hid h4
    clear h3 h4 hbw
    refine last_k fun K hK => ?_
    go_simp
    refine hK _ _ ?_
    clear hK K d0 d1 d2 f0 f1 f2
    go_wp2_with fail
    refine zbc Tryz.results52 rfl rfl (Row.put3 RZ'.out _ _ _) ?_
    have hsame : Same (New w0.heap.size W) (New w.heap.size (put3 W (w.heap.size + 1) (.bool r.neg) (.slice A1 r.num.length k1) (.slice A2 r.den.length k2))) W (put3 W (w.heap.size + 1) (.bool r.neg) (.slice A1 r.num.length k1) (.slice A2 r.den.length k2)) := zce fun b hb => ⟨by have := hb.1; omega, ⟨by have := hb.1; omega, by rw [zcf]; exact hb.2⟩⟩
    exact ⟨⟨_, rfl, A1, k1, A2, k2, rfl, IsK.stb.to H3.out hsame, IsK.stb.to H4.out hsame⟩, zbn hB.out (by omega) _ _ _⟩
set_option maxRecDepth 100000 in
set_option maxHeartbeats 2000000 in
theorem own_v {w : World} {v : Value} {l : List Raw} (h : IsV w (Old w) v l) (hs : ShortV l) (hl : l.length ≤ 1000) :
    Calls Tryz.prog 12 #[v] w fun e w' => (∃ v', e = .returned v' ∧ IsV w' (New w.heap.size w') v' l) ∧ Below w.heap.size w w' := by
  have H := Lib.hid h
  have Hs := Lib.hid hs
  obtain ⟨A, c, rfl, _⟩ := zbf h
  obtain ⟨n, hn⟩ : ∃ n, n = l.length := ⟨_, rfl⟩
  rw [← hn] at H hl ⊢
  have Hn := Lib.hid hn
  clear h hs hn
  go_enter Tryz.func12, Tryz.ntmps12
  go_wp2_with fail
  go_loopw [3, 4] (fun ov i wr => ∃ (j : Nat) (S : Nat → Prop), j ≤ n ∧ i = .int .i64 (j : Int) ∧ Below w.heap.size w wr ∧ Hid (OwnS 3 31 IsR wr w.heap.size S ov (l.take j)) ∧ Hid (∀ b, S b → w.heap.size ≤ b)) (fun _ i _ => n - (intOf i).toNat)
  case atStart => exact ⟨0, fun _ => False, Nat.zero_le _, rfl, Below.refl _ _, OwnS.nil (fun b hb => hb.elim), fun b hb => hb.elim⟩
  case round =>
    obtain ⟨j, S, hj, rfl, hbw, hrel, hS⟩ := hrel
    have Hbw := Lib.hid hbw
    have Own := Lib.hid hrel.out
    have HS := Lib.hid hS.out
    clear hrel hS
    rcases Nat.lt_or_ge j n with hlt | hge
    · obtain ⟨r, hr⟩ := zek (l := l) (j := j) (by rw [← Hn.out]; exact hlt)
      obtain ⟨b1, o1, X1, X2, X3, X4, rfl, _, helb, c0, c1, c2⟩ := zcg (IsV.stb.to H.out (zar hbw)) hr
      have QD := Lib.hid helb
      have Hr := Lib.hid hr
      have Hsr := Lib.hid (Hs.out r (List.mem_of_getElem? hr))
      have cr := zbm
      have Hlt := Lib.hid hlt
      clear hr helb hbw
      go_wp2_with fail
      refine (own_r QD.out (by have := Hsr.out.1; omega) (by have := Hsr.out.2; omega)).mono ?_
      rintro e w5 ⟨⟨v5, rfl, hv⟩, hb5⟩
      obtain ⟨P, k, Q, m, rfl, _⟩ := id hv
      have Own5 := Lib.hid (OwnS.step IsR.stb (T := fun b => S b ∨ (wr.heap.size ≤ b ∧ b < w5.heap.size)) Own.out hb5 (fun b h => .inl h) (fun b h => h))
      have El : Hid (IsR w5 (fun b => S b ∨ (wr.heap.size ≤ b ∧ b < w5.heap.size)) (.agg #[.bool r.neg, .slice P r.num.length k, .slice Q r.den.length m]) r) := IsR.stb.to hv (zba (S := New wr.heap.size w5) (T := fun b => S b ∨ (wr.heap.size ≤ b ∧ b < w5.heap.size)) fun b h => .inr h)
      have Hbw5 := Lib.hid (zaa Hbw.out hb5)
      have hbase : w.heap.size ≤ w5.heap.size := Hbw5.out.size
      clear c0 c1 c2 hv hb5
      go_wp2_with (at_builtin; refine zdk elR rfl _ _ rfl IsR.stb rfl rfl rfl Own5.out El.out rfl (by intro u hu; simp [Value.cells] at hu; rcases hu with rfl | rfl | rfl <;> rfl) (by have h1 := List.length_take_le j l; omega) hbase ?_; intro v7 w7 hown7 hb7 hz7)
      go_roundw
      case rel =>
        refine ⟨j + 1, fun b => S b ∨ (wr.heap.size ≤ b ∧ b < w5.heap.size), by have := Hlt.out; omega, by go_num, Hbw5.out.trans hb7, ?_, fun b hb => by rcases hb with hb | hb; exact HS.out b hb; exact Nat.le_trans Hbw.out.size hb.1⟩
        rw [Hid, zcn Hr.out]
        exact hown7
      case measure => have := Hlt.out; simp [intOf]; omega
    · obtain rfl : j = n := by omega
      have e : l.take j = l := List.take_of_length_le (by rw [← Hn.out]; exact Nat.le_refl _)
      clear hbw
      go_wp2_with fail
      go_ret
      refine ⟨⟨_, rfl, ?_⟩, Hbw.out⟩
      have h1 := Own.out
      rw [e] at h1
      exact OwnS.isS IsR.stb (T := New w.heap.size wr) h1 (fun b hb => ⟨HS.out b hb, by obtain ⟨_, _, _, _, h4⟩ := h1; exact (h4 b hb).1⟩) (fun b h1 h2 => ⟨h1, h2⟩)
set_option maxHeartbeats 400000 in
theorem zfj {w : World} {va : Value} {l : List Nat} {lo hi : Nat} (ha : IsL .u32 w lo hi va l) :
    Calls Tryz.prog 170 #[va] w fun e w' => e = .returned (.int .i64 (chk l)) ∧ w = w' := by
  obtain ⟨A, c, rfl, hc, hcm, hA⟩ := ha
  by_cases hlong : 1024 < l.length
  · have H := Lib.hid (chk_long hlong)
    go_enter Tryz.func170, Tryz.ntmps170
    go_wp2
    go_ret
    exact ⟨zas H.out.symm, rfl⟩
  · go_enter Tryz.func170, Tryz.ntmps170
    go_wp2
    go_loop [3] (fun i => ∃ k : Nat, k ≤ l.length ∧ i = .int .i64 k ∧ Hid (∀ j, j < k → l.getD j 0 < 1000000000)) (fun i => l.length - (intOf i).toNat)
    case atStart => exact ⟨0, Nat.zero_le _, rfl, fun j hj => by omega⟩
    case round =>
      obtain ⟨k, hk, rfl, hall⟩ := hrel
      by_cases hlt : k < l.length
      · obtain ⟨b, off, rfl, _, _, hca⟩ := hA (zbh (j := k) hlt)
        obtain ⟨x, hx, hx0, hck⟩ := zdb (j := k) hca hlt
        clear hca
        rcases Int.lt_or_le x 1000000000 with hx1 | hx1
        · go_wp2
          go_round
          case rel =>
            refine ⟨k + 1, hlt, by go_num, ?_⟩
            intro j hj
            rcases Nat.lt_or_ge j k with h | h
            · exact hall.out j h
            · obtain rfl : j = k := by omega
              have := hx.out
              omega
          case measure => simp [intOf]; omega
        · have H := Lib.hid (chk_big hlong (getD_mem hlt) (by have := hx.out; omega))
          go_wp2
          go_ret
          exact ⟨zas H.out.symm, rfl⟩
      · obtain rfl : k = l.length := by omega
        have hL := Lib.hid (chk_lo hlong (lo_of_getD hall.out))
        clear hall
        by_cases h0 : 0 < l.length
        · obtain ⟨b, off, rfl, _, _, hca⟩ := hA (zbh (j := l.length - 1) (by omega))
          obtain ⟨x, hx, hx0, hck⟩ := zdb (j := l.length - 1) hca (by omega)
          clear hca
          have hlast := Lib.hid (last_getD h0)
          by_cases hxz : x = 0
          · subst hxz
            have H : Hid (chk l = 3) := by unfold Hid; rw [hL.out, if_pos]; rw [hlast.out]; have := hx.out; omega
            go_wp2
            go_ret
            exact ⟨zas H.out.symm, rfl⟩
          · have hb : (x == 0) = false := beq_eq_false_iff_ne.2 hxz
            have H : Hid (chk l = 0) := by unfold Hid; rw [hL.out, if_neg]; rw [hlast.out]; have := hx.out; omega
            clear hxz
            go_wp2
            go_ret
            exact ⟨zas H.out.symm, rfl⟩
        · have e : l = [] := List.eq_nil_of_length_eq_zero (by omega)
          subst e
          have H : Hid (chk [] = 0) := by show chk [] = 0; decide
          go_wp2
          go_ret
          exact ⟨zas H.out.symm, rfl⟩
set_option maxHeartbeats 400000 in
theorem rparts_l {w : World} {va vb : Value} {a b : List Nat} (ha : IsL .u32 w 0 w.heap.size va a) (hb : IsL .u32 w 0 w.heap.size vb b) : Calls Tryz.prog 143 #[va, vb] w fun e w' => e = .returned (.int .i64 (chkN a b)) ∧ w = w' := by
  have Ha := Lib.hid ha
  have Hb := Lib.hid hb
  obtain ⟨A, c, rfl, _, _, _⟩ := ha
  obtain ⟨B, d, rfl, _, _, _⟩ := hb
  obtain ⟨x, hx⟩ : ∃ x, x = chk a := ⟨_, rfl⟩
  obtain ⟨y, hy⟩ : ∃ y, y = chk b := ⟨_, rfl⟩
  have Hx := Lib.hid hx
  have Hy := Lib.hid hy
  clear hx hy
  by_cases h1 : x = 0
  case neg =>
    have e1 : (x != 0) = true := bne_iff_ne.2 h1
    have Hr : Hid (chkN a b = x) := by unfold Hid chkN; rw [← Hx.out, if_pos h1]
    go_enter Tryz.func143, Tryz.ntmps143
    go_wp2_with fail
    refine (zfj Ha.out).mono ?_
    rw [← Hx.out]
    rintro e w1 ⟨rfl, rfl⟩
    go_wp2_with fail
    go_ret
    exact ⟨zas Hr.out.symm, rfl⟩
  have e1 : (x != 0) = false := by rw [h1]; rfl
  have H1 := Lib.hid h1
  clear h1
  by_cases h2 : y = 0
  case neg =>
    have e2 : (y != 0) = true := bne_iff_ne.2 h2
    have Hr : Hid (chkN a b = y) := by unfold Hid chkN; rw [← Hx.out, if_neg (by simp [H1.out]), ← Hy.out, if_pos h2]
    go_enter Tryz.func143, Tryz.ntmps143
    go_wp2_with fail
    refine (zfj Ha.out).mono ?_
    rw [← Hx.out]
    rintro e w1 ⟨rfl, rfl⟩
    go_wp2_with fail
    refine (zfj Hb.out).mono ?_
    rw [← Hy.out]
    rintro e w1 ⟨rfl, rfl⟩
    go_wp2_with fail
    go_ret
    exact ⟨zas Hr.out.symm, rfl⟩
  have e2 : (y != 0) = false := by rw [h2]; rfl
  have H2 := Lib.hid h2
  clear h2
  by_cases h3 : b = []
  · have e3 : ((b.length : Int) == 0) = true := by rw [h3]; rfl
    have Hr : Hid (chkN a b = 6) := by unfold Hid chkN; rw [← Hx.out, if_neg (by simp [H1.out]), ← Hy.out, if_neg (by simp [H2.out]), if_pos h3]
    clear h3
    go_enter Tryz.func143, Tryz.ntmps143
    go_wp2_with fail
    refine (zfj Ha.out).mono ?_
    rw [← Hx.out]
    rintro e w1 ⟨rfl, rfl⟩
    go_wp2_with fail
    refine (zfj Hb.out).mono ?_
    rw [← Hy.out]
    rintro e w1 ⟨rfl, rfl⟩
    go_wp2_with fail
    go_ret
    exact ⟨zas Hr.out.symm, rfl⟩
  · have e3 : ((b.length : Int) == 0) = false := beq_eq_false_iff_ne.2 (by have := List.length_pos_iff.2 h3; omega)
    have Hr : Hid (chkN a b = 0) := by unfold Hid chkN; rw [← Hx.out, if_neg (by simp [H1.out]), ← Hy.out, if_neg (by simp [H2.out]), if_neg h3]
    clear h3
    go_enter Tryz.func143, Tryz.ntmps143
    go_wp2_with fail
    refine (zfj Ha.out).mono ?_
    rw [← Hx.out]
    rintro e w1 ⟨rfl, rfl⟩
    go_wp2_with fail
    refine (zfj Hb.out).mono ?_
    rw [← Hy.out]
    rintro e w1 ⟨rfl, rfl⟩
    go_wp2_with fail
    go_ret
    exact ⟨zas Hr.out.symm, rfl⟩
theorem zdh {w : World} {va vb : Value} {x y : Nat} (ha : IsN w 0 w.heap.size va x) (hb : IsN w 0 w.heap.size vb y) (h1 : (lim x).length ≤ 1024) (h2 : (lim y).length ≤ 1024) :
    Calls Tryz.prog 144 #[va, vb] w fun e w' => (∃ v, e = .returned v ∧ IsN w' 0 w'.heap.size v (Nat.gcd x y)) ∧ Below w.heap.size w w' :=
  rcommon_n ha hb (Nat.le_trans h1 (by omega)) (Nat.le_trans h2 (by omega))
set_option maxRecDepth 100000 in
set_option maxHeartbeats 1000000 in
theorem rcheck_q {w : World} {v : Value} {r : Raw} (h : IsR w (Old w) v r) : Calls Tryz.prog 93 #[v] w fun e w' => e = .returned (.int .i64 (chkQ r)) ∧ Below w.heap.size w w' := by
  obtain ⟨A, cA, B, cB, rfl, h1, h2⟩ := isR_open h
  obtain ⟨w0, hw0, hb0, rA, Hz⟩ := zbp w #[.bool r.neg, .slice A r.num.length cA, .slice B r.den.length cB] 31
  have Hn := Lib.hid (IsK.isL (IsK.stb.next h1 hb0) (lo := 0) (hi := w0.heap.size) fun b hb => ⟨Nat.zero_le _, hb⟩)
  have Hd := Lib.hid (IsK.isL (IsK.stb.next h2 hb0) (lo := 0) (hi := w0.heap.size) fun b hb => ⟨Nat.zero_le _, hb⟩)
  obtain ⟨a0, a1, a2⟩ := zac rA
  have HA := Lib.hid rA
  have Hb := Lib.hid hb0
  have hl : r.num.length ≤ 9223372036854775807 := by have := Hn.out.length_le; unfold maxLen at this; omega
  clear h h1 h2 rA hb0
  obtain ⟨x, hx⟩ : ∃ x, x = chkN r.num r.den := ⟨_, rfl⟩
  have Hx := Lib.hid hx
  clear hx
  by_cases hx0 : x = 0
  case neg =>
    have e1 : (x != 0) = true := bne_iff_ne.2 hx0
    have Hr : Hid (chkQ r = x) := by rw [Hid, Hx.out]; exact chkQ_parts (by rw [← Hx.out]; exact hx0)
    go_enter Tryz.func93, Tryz.ntmps93
    go_wp2_with fail
    refine (rparts_l Hn.out Hd.out).mono ?_
    rw [← Hx.out]
    rintro e w1 ⟨rfl, rfl⟩
    go_wp2_with fail
    go_ret
    exact ⟨zas Hr.out.symm, Hb.out⟩
  have e1 : (x != 0) = false := by rw [hx0]; rfl
  have hok := chkN_ok (num := r.num) (den := r.den) (by rw [← Hx.out]; exact hx0)
  have Hrest := Lib.hid (chkQ_rest (r := r) (by rw [← Hx.out]; exact hx0))
  have Hok := Lib.hid hok
  have HN := Lib.hid (Hn.out.isN hok.1)
  have HD := Lib.hid (Hd.out.isN hok.2.1)
  have en := (zfr hok.1).2.2
  have ed := (zfr hok.2.1).2.2
  have Hnl := Lib.hid (chk_len hok.1)
  have Hdl := Lib.hid (chk_len hok.2.1)
  clear hok hx0
  clear en ed
  obtain ⟨G, hG⟩ : ∃ G, G = Nat.gcd (val r.num) (val r.den) := ⟨_, rfl⟩
  have H3 : Hid ((r.num = [] ∧ r.neg = true) ∨ G ≠ 1 → chkQ r = 3) := fun h => by rw [Hrest.out, if_pos (by rw [← hG]; exact h)]
  have H0 : Hid (¬ ((r.num = [] ∧ r.neg = true) ∨ G ≠ 1) → chkQ r = 0) := fun h => by rw [Hrest.out, if_neg (by rw [← hG]; exact h)]
  have HG := Lib.hid hG
  clear hG
  obtain ⟨s, hs⟩ : ∃ s, s = r.neg := ⟨_, rfl⟩
  rw [← hs] at a0 hw0 H3 H0 HA ⊢
  clear hs
  by_cases h1 : (lim G).length = 1
  case neg =>
    have e2 : (((lim G).length : Int) != 1) = true := bne_iff_ne.2 (by omega)
    have Hr : Hid (chkQ r = 3) := H3.out (.inr fun h => h1 (by rw [h, zdg]; rfl))
    clear h1
    go_enter Tryz.func93, Tryz.ntmps93
    go_wp2_with fail
    refine (rparts_l Hn.out Hd.out).mono ?_
    rw [← Hx.out]
    rintro e w1 ⟨rfl, rfl⟩
    go_wp2_with fail
    refine (show Calls Tryz.prog 144 #[.slice A r.num.length cA, .slice B r.den.length cB] w0 (fun e w' => (∃ v, e = .returned v ∧ IsN w' 0 w'.heap.size v G) ∧ Below w0.heap.size w0 w') from by rw [HG.out]; exact zdh HN.out HD.out Hnl.out Hdl.out).mono ?_
    rintro e w1 ⟨⟨v1, rfl, hv⟩, hb⟩
    have Hb1 := Lib.hid (zaa Hb.out hb)
    obtain ⟨b0, b1, b2⟩ := zac (HA.out.next hb)
    have HN1 := Lib.hid (IsN.next HN.out hb)
    have HD1 := Lib.hid (IsN.next HD.out hb)
    obtain ⟨P1, k1, rfl, _, _, _⟩ := hv
    clear hb a0 a1 a2
    go_wp2_with fail
    go_ret
    exact ⟨zas Hr.out.symm, Hb1.out⟩
  have e2 : (((lim G).length : Int) != 1) = false := by rw [h1]; rfl
  have Hone := Lib.hid h1
  have hlt : 0 < (lim G).length := by omega
  clear h1
  by_cases h2 : G = 1
  case neg =>
    have e3 : ((G : Int) != 1) = true := bne_iff_ne.2 (by omega)
    have Hr : Hid (chkQ r = 3) := H3.out (.inr h2)
    clear h2
    go_enter Tryz.func93, Tryz.ntmps93
    go_wp2_with fail
    refine (rparts_l Hn.out Hd.out).mono ?_
    rw [← Hx.out]
    rintro e w1 ⟨rfl, rfl⟩
    go_wp2_with fail
    refine (show Calls Tryz.prog 144 #[.slice A r.num.length cA, .slice B r.den.length cB] w0 (fun e w' => (∃ v, e = .returned v ∧ IsN w' 0 w'.heap.size v G) ∧ Below w0.heap.size w0 w') from by rw [HG.out]; exact zdh HN.out HD.out Hnl.out Hdl.out).mono ?_
    rintro e w1 ⟨⟨v1, rfl, hv⟩, hb⟩
    have Hb1 := Lib.hid (zaa Hb.out hb)
    have HA1 := Lib.hid (HA.out.next hb)
    obtain ⟨b0, b1, b2⟩ := zac HA1.out
    have HN1 := Lib.hid (IsN.next HN.out hb)
    have HD1 := Lib.hid (IsN.next HD.out hb)
    obtain ⟨P1, k1, rfl, _, _, _⟩ := hv
    clear hb a0 a1 a2
    go_wp2_with fail
    refine (show Calls Tryz.prog 144 #[.slice A r.num.length cA, .slice B r.den.length cB] w1 (fun e w' => (∃ v, e = .returned v ∧ IsN w' 0 w'.heap.size v G) ∧ Below w1.heap.size w1 w') from by rw [HG.out]; exact zdh HN1.out HD1.out Hnl.out Hdl.out).mono ?_
    rintro e w2 ⟨⟨v2, rfl, hv⟩, hb⟩
    have Hb2 := Lib.hid (zaa Hb1.out hb)
    obtain ⟨d0, d1, d2⟩ := zac (HA1.out.next hb)
    obtain ⟨P2, k2, rfl, _, _, _⟩ := id hv
    obtain ⟨bg, og, rfl, hg, _, _⟩ := zcw (zeg hv) Hone.out
    clear hb b0 b1 b2
    go_wp2_with fail
    go_ret
    exact ⟨zas Hr.out.symm, Hb2.out⟩
  have e3 : ((G : Int) != 1) = false := by rw [h2]; rfl
  have H2 := Lib.hid h2
  clear h2
  cases s with
  | false =>
    have Hr : Hid (chkQ r = 0) := H0.out (by simp [H2.out])
    go_enter Tryz.func93, Tryz.ntmps93
    go_wp2_with fail
    refine (rparts_l Hn.out Hd.out).mono ?_
    rw [← Hx.out]
    rintro e w1 ⟨rfl, rfl⟩
    go_wp2_with fail
    refine (show Calls Tryz.prog 144 #[.slice A r.num.length cA, .slice B r.den.length cB] w0 (fun e w' => (∃ v, e = .returned v ∧ IsN w' 0 w'.heap.size v G) ∧ Below w0.heap.size w0 w') from by rw [HG.out]; exact zdh HN.out HD.out Hnl.out Hdl.out).mono ?_
    rintro e w1 ⟨⟨v1, rfl, hv⟩, hb⟩
    have Hb1 := Lib.hid (zaa Hb.out hb)
    have HA1 := Lib.hid (HA.out.next hb)
    obtain ⟨b0, b1, b2⟩ := zac HA1.out
    have HN1 := Lib.hid (IsN.next HN.out hb)
    have HD1 := Lib.hid (IsN.next HD.out hb)
    obtain ⟨P1, k1, rfl, _, _, _⟩ := hv
    clear hb a0 a1 a2
    go_wp2_with fail
    refine (show Calls Tryz.prog 144 #[.slice A r.num.length cA, .slice B r.den.length cB] w1 (fun e w' => (∃ v, e = .returned v ∧ IsN w' 0 w'.heap.size v G) ∧ Below w1.heap.size w1 w') from by rw [HG.out]; exact zdh HN1.out HD1.out Hnl.out Hdl.out).mono ?_
    rintro e w2 ⟨⟨v2, rfl, hv⟩, hb⟩
    have Hb2 := Lib.hid (zaa Hb1.out hb)
    obtain ⟨d0, d1, d2⟩ := zac (HA1.out.next hb)
    obtain ⟨P2, k2, rfl, _, _, _⟩ := id hv
    obtain ⟨bg, og, rfl, hg, _, _⟩ := zcw (zeg hv) Hone.out
    clear hb b0 b1 b2
    go_wp2_with fail
    go_ret
    exact ⟨zas Hr.out.symm, Hb2.out⟩
  | true =>
    by_cases h0 : r.num = []
    · have e4 : ((r.num.length : Int) == 0) = true := by rw [h0]; rfl
      have Hr : Hid (chkQ r = 3) := H3.out (.inl ⟨h0, rfl⟩)
      clear h0
      go_enter Tryz.func93, Tryz.ntmps93
      go_wp2_with fail
      refine (rparts_l Hn.out Hd.out).mono ?_
      rw [← Hx.out]
      rintro e w1 ⟨rfl, rfl⟩
      go_wp2_with fail
      refine (show Calls Tryz.prog 144 #[.slice A r.num.length cA, .slice B r.den.length cB] w0 (fun e w' => (∃ v, e = .returned v ∧ IsN w' 0 w'.heap.size v G) ∧ Below w0.heap.size w0 w') from by rw [HG.out]; exact zdh HN.out HD.out Hnl.out Hdl.out).mono ?_
      rintro e w1 ⟨⟨v1, rfl, hv⟩, hb⟩
      have Hb1 := Lib.hid (zaa Hb.out hb)
      have HA1 := Lib.hid (HA.out.next hb)
      obtain ⟨b0, b1, b2⟩ := zac HA1.out
      have HN1 := Lib.hid (IsN.next HN.out hb)
      have HD1 := Lib.hid (IsN.next HD.out hb)
      obtain ⟨P1, k1, rfl, _, _, _⟩ := hv
      clear hb a0 a1 a2
      go_wp2_with fail
      refine (show Calls Tryz.prog 144 #[.slice A r.num.length cA, .slice B r.den.length cB] w1 (fun e w' => (∃ v, e = .returned v ∧ IsN w' 0 w'.heap.size v G) ∧ Below w1.heap.size w1 w') from by rw [HG.out]; exact zdh HN1.out HD1.out Hnl.out Hdl.out).mono ?_
      rintro e w2 ⟨⟨v2, rfl, hv⟩, hb⟩
      have Hb2 := Lib.hid (zaa Hb1.out hb)
      obtain ⟨d0, d1, d2⟩ := zac (HA1.out.next hb)
      obtain ⟨P2, k2, rfl, _, _, _⟩ := id hv
      obtain ⟨bg, og, rfl, hg, _, _⟩ := zcw (zeg hv) Hone.out
      clear hb b0 b1 b2
      go_wp2_with fail
      go_ret
      exact ⟨zas Hr.out.symm, Hb2.out⟩
    · have e4 : ((r.num.length : Int) == 0) = false := beq_eq_false_iff_ne.2 (by have := List.length_pos_iff.2 h0; omega)
      have Hr : Hid (chkQ r = 0) := H0.out (by simp [H2.out, h0])
      clear h0
      go_enter Tryz.func93, Tryz.ntmps93
      go_wp2_with fail
      refine (rparts_l Hn.out Hd.out).mono ?_
      rw [← Hx.out]
      rintro e w1 ⟨rfl, rfl⟩
      go_wp2_with fail
      refine (show Calls Tryz.prog 144 #[.slice A r.num.length cA, .slice B r.den.length cB] w0 (fun e w' => (∃ v, e = .returned v ∧ IsN w' 0 w'.heap.size v G) ∧ Below w0.heap.size w0 w') from by rw [HG.out]; exact zdh HN.out HD.out Hnl.out Hdl.out).mono ?_
      rintro e w1 ⟨⟨v1, rfl, hv⟩, hb⟩
      have Hb1 := Lib.hid (zaa Hb.out hb)
      have HA1 := Lib.hid (HA.out.next hb)
      obtain ⟨b0, b1, b2⟩ := zac HA1.out
      have HN1 := Lib.hid (IsN.next HN.out hb)
      have HD1 := Lib.hid (IsN.next HD.out hb)
      obtain ⟨P1, k1, rfl, _, _, _⟩ := hv
      clear hb a0 a1 a2
      go_wp2_with fail
      refine (show Calls Tryz.prog 144 #[.slice A r.num.length cA, .slice B r.den.length cB] w1 (fun e w' => (∃ v, e = .returned v ∧ IsN w' 0 w'.heap.size v G) ∧ Below w1.heap.size w1 w') from by rw [HG.out]; exact zdh HN1.out HD1.out Hnl.out Hdl.out).mono ?_
      rintro e w2 ⟨⟨v2, rfl, hv⟩, hb⟩
      have Hb2 := Lib.hid (zaa Hb1.out hb)
      obtain ⟨d0, d1, d2⟩ := zac (HA1.out.next hb)
      obtain ⟨P2, k2, rfl, _, _, _⟩ := id hv
      obtain ⟨bg, og, rfl, hg, _, _⟩ := zcw (zeg hv) Hone.out
      clear hb b0 b1 b2
      go_wp2_with fail
      go_ret
      exact ⟨zas Hr.out.symm, Hb2.out⟩
theorem rgetD_map {l : List Raw} {j : Nat} {r : Raw} (h : l[j]? = some r) : (l.map chkQ).getD j 0 = chkQ r := by
  rw [List.getD_eq_getElem?_getD, List.getElem?_map, h]; rfl
theorem rsome_at {α : Type} {l : List α} {j : Nat} (h : j < l.length) : ∃ x, l[j]? = some x := ⟨_, List.getElem?_eq_getElem h⟩
set_option maxRecDepth 100000 in
set_option maxHeartbeats 1000000 in
theorem rlist_l {w : World} {v : Value} {l : List Raw} (h : IsV w (Old w) v l) :
    Calls Tryz.prog 87 #[v] w fun e w' => e = .returned (.int .i64 (chkL l)) ∧ Below w.heap.size w w' := by
  have H := Lib.hid h
  obtain ⟨A, c, rfl, hl⟩ := zbf h
  clear h
  go_enter Tryz.func87, Tryz.ntmps87
  go_wp2_with fail
  go_loopw [3] (fun i wr => ∃ k : Nat, k ≤ l.length ∧ i = .int .i64 (k : Int) ∧ Below w.heap.size w wr ∧ Hid (∀ j, j < k → (l.map chkQ).getD j 0 = 0)) (fun i _ => l.length - (intOf i).toNat)
  case atStart => exact ⟨0, Nat.zero_le _, rfl, Below.refl _ _, fun j hj => by omega⟩
  case round =>
    obtain ⟨k, hk, rfl, hbw, hrel⟩ := hrel
    have Hbw := Lib.hid hbw
    have Hrel := Lib.hid hrel.out
    clear hrel
    rcases Nat.lt_or_ge k l.length with hlt | hge
    · obtain ⟨r, hr⟩ := rsome_at hlt
      obtain ⟨b, off, P, kP, Q, kQ, rfl, hSb, hel, c0, c1, c2⟩ := zcg (IsV.stb.next H.out hbw) hr
      have Hel := Lib.hid hel
      have Hrr := Lib.hid hr
      have cr := zbm
      obtain ⟨x, hx⟩ : ∃ x, x = chkQ r := ⟨_, rfl⟩
      have Hx := Lib.hid hx
      clear hel hr hbw hx
      by_cases hx0 : x = 0
      · have e0 : (x != 0) = false := by rw [hx0]; rfl
        have Hx0 := Lib.hid hx0
        clear hx0
        go_wp2_with fail
        refine (rcheck_q Hel.out).mono ?_
        rw [← Hx.out]
        rintro e w1 ⟨rfl, hb⟩
        have Hb1 := Lib.hid (zaa Hbw.out hb)
        clear hb
        go_wp2_with fail
        go_roundw
        case rel =>
          refine ⟨k + 1, by omega, by go_num, Hb1.out, fun j hj => ?_⟩
          rcases Nat.lt_or_ge j k with h | h
          · exact Hrel.out j h
          · obtain rfl : j = k := by omega
            rw [rgetD_map Hrr.out, ← Hx.out, Hx0.out]
        case measure => simp [intOf]; omega
      · have e0 : (x != 0) = true := bne_iff_ne.2 hx0
        have Hfin : Hid (chkL l = x) := by
          rw [Hid]
          exact fstE_at Hrel.out (by rw [List.getElem?_map, Hrr.out, Hx.out]; rfl) hx0
        clear hx0
        go_wp2_with fail
        refine (rcheck_q Hel.out).mono ?_
        rw [← Hx.out]
        rintro e w1 ⟨rfl, hb⟩
        have Hb1 := Lib.hid (zaa Hbw.out hb)
        clear hb
        go_wp2_with fail
        go_ret
        exact ⟨zas Hfin.out.symm, Hb1.out⟩
    · obtain rfl : k = l.length := by omega
      have Hfin : Hid (chkL l = 0) := by
        rw [Hid]
        exact fstE_all (by rw [List.length_map]; exact Hrel.out)
      clear hbw
      go_wp2_with fail
      go_ret
      exact ⟨zas Hfin.out.symm, Hbw.out⟩
theorem rvcheck_l {w : World} {v : Value} {l : List Raw} (h : IsV w (Old w) v l) :
    Calls Tryz.prog 34 #[v] w fun e w' => e = .returned (.int .i64 (chkV l)) ∧ Below w.heap.size w w' := by
  have H := Lib.hid h
  obtain ⟨A, c, rfl, hl⟩ := zbf h
  clear h
  by_cases h40 : 40 < l.length
  · have Hr : Hid (chkV l = 4) := by unfold Hid chkV; rw [if_pos h40]
    go_enter Tryz.func34, Tryz.ntmps34
    go_wp2_with fail
    go_ret
    exact ⟨zas Hr.out.symm, Below.refl _ _⟩
  · have Hr : Hid (chkV l = chkL l) := by unfold Hid chkV; rw [if_neg h40]
    have h40' : l.length ≤ 40 := by omega
    clear h40
    go_enter Tryz.func34, Tryz.ntmps34
    go_wp2_with fail
    refine (rlist_l H.out).mono ?_
    rintro e w1 ⟨rfl, hb⟩
    have Hb := Lib.hid hb
    clear hb
    go_wp2_with fail
    go_ret
    exact ⟨zas Hr.out.symm, Hb.out⟩
set_option maxHeartbeats 1000000 in
theorem rfits_n {w : World} {va : Value} {x : Nat} {lo hi : Nat} (ha : IsN w lo hi va x) (hi1 : hi ≤ w.heap.size) :
    Calls Tryz.prog 118 #[va] w fun e w' => (∃ v, e = .returned (.tuple #[v, .int .i64 (fite x)]) ∧ IsN w' w.heap.size w'.heap.size v (fitv x)) ∧ Below w.heap.size w w' := by
  obtain ⟨A, c, rfl, _, _, hA⟩ := ha
  by_cases h : (lim x).length ≤ 1024
  · rw [fitv_le h, fite_le h]
    go_enter Tryz.func118, Tryz.ntmps118
    go_wp2_with (at_builtin; refine wp_appN elN rfl _ _ rfl rfl (own_empty w 103 103) rfl (zbi _ _) (hA.alloc hi1 _) (cel_one _ _) (by simp only [List.length_nil]; omega) (by simp) ?_; intro v1 w1 hown hb hz)
    go_ret2
    exact ⟨⟨_, rfl, Own.isL (by simpa using hown)⟩, ((Below.refl _ w).alloc (Nat.le_refl _) _).trans hb⟩
  · rw [fitv_gt h, fite_gt h]
    go_enter Tryz.func118, Tryz.ntmps118
    go_wp2
    go_ret2
    exact ⟨⟨_, rfl, IsN.zero⟩, Below.refl _ _⟩
theorem fite_eq {x : Nat} : (fite x != 0) = !decide ((lim x).length ≤ 1024) := by
  rcases Decidable.em ((lim x).length ≤ 1024) with h | h
  · rw [fite_le h, decide_eq_true h]; rfl
  · rw [fite_gt h, decide_eq_false h]; rfl
set_option maxRecDepth 100000 in
set_option maxHeartbeats 2000000 in
theorem rfits_q {w : World} {v : Value} {q : Rat} (h : IsQ w (Old w) v q) : Calls Tryz.prog 61 #[v] w fun e w' => (∃ v', e = .returned (.tuple #[v', .int .i64 (gapE q)]) ∧ IsR w' (New w.heap.size w') v' (gapR q)) ∧ Below w.heap.size w w' := by
  have HQ := Lib.hid h
  obtain ⟨s, A, cA, B, cB, rfl, hs, hn, hd⟩ := zaj h
  clear h
  obtain ⟨w0, hw0, hb0, rA, rZ, Hz⟩ := zdw w #[.bool s, .slice A (lim q.num.natAbs).length cA, .slice B (lim q.den).length cB] #[.bool false, .slice none 0 0, .slice none 0 0] 31 31
  have HB0 := Lib.hid hb0
  have RA := Lib.hid rA
  have RZ := Lib.hid rZ
  obtain ⟨c0, c1, c2⟩ := zac rA
  clear hb0 rA rZ
  obtain ⟨b1, hb1⟩ : ∃ b, b = decide ((lim q.num.natAbs).length ≤ 1024) := ⟨_, rfl⟩
  obtain ⟨b2, hb2⟩ : ∃ b, b = decide ((lim q.den).length ≤ 1024) := ⟨_, rfl⟩
  obtain ⟨e1, he1⟩ : ∃ e, e = fite q.num.natAbs := ⟨_, rfl⟩
  obtain ⟨e2, he2⟩ : ∃ e, e = fite q.den := ⟨_, rfl⟩
  have p1 : (e1 != 0) = !b1 := by rw [he1, hb1]; exact fite_eq
  have p2 : (e2 != 0) = !b2 := by rw [he2, hb2]; exact fite_eq
  have Hb1 := Lib.hid hb1
  have Hb2 := Lib.hid hb2
  have He1 := Lib.hid he1
  have He2 := Lib.hid he2
  clear hb1 hb2 he1 he2
  cases b1
  all_goals cases b2
  all_goals
    go_enter Tryz.func61, Tryz.ntmps61
    go_wp2_with fail
    clear hw0
    refine (rfits_n (zag (IsK.stb.to hn.out (zar HB0.out))) (Nat.le_refl _)).mono ?_
    rw [← He1.out]
    rintro e w1 ⟨⟨v1, rfl, hv1⟩, hb⟩
    have HB1 := Lib.hid (zaa HB0.out hb)
    have V1 := Lib.hid (zef hv1)
    have RZ1 := Lib.hid (RZ.out.next hb)
    clear c0 c1 c2
    obtain ⟨c0, c1, c2⟩ := zac (RA.out.next hb)
    have hs1 := hb.size
    obtain ⟨P1, k1, rfl, _, _, _⟩ := id hv1
    clear hb hv1
    go_wp2_with fail
    refine (rfits_n (zag (IsK.stb.to hd.out (zar HB1.out))) (Nat.le_refl _)).mono ?_
    rw [← He2.out]
    rintro e w2 ⟨⟨v2, rfl, hv2⟩, hb⟩
    have HB2 := Lib.hid (zaa HB1.out hb)
    have V2 := Lib.hid (zef hv2)
    have V1' := Lib.hid (IsK.stb.fresh V1.out hb)
    have RZ2 := Lib.hid (RZ1.out.next hb)
    obtain ⟨d0, d1, d2⟩ := zac RZ2.out
    obtain ⟨f0, f1, f2⟩ := zaq RZ2.out
    have c0' := zad hb c0
    have hs2 := RZ1.out.lt
    obtain ⟨P2, k2, rfl, _, _, _⟩ := id hv2
    clear hb hv2 c0 c1 c2
    go_wp2_with fail
    refine bodyPost_ret (zcz rfl rfl (Row.put3 RZ2.out _ _ _)) rfl ?_
  rotate_left 3
  focus
    have hf : fitsQ q = true := fitsQ_true.2 ⟨of_decide_eq_true Hb1.out.symm, of_decide_eq_true Hb2.out.symm⟩
    have g1 : gapE q = 0 := by unfold gapE; rw [hf]; rfl
    have g2 : gapR q = raw q := by unfold gapR; rw [hf]; rfl
    have w1' := Hz.out
    refine ⟨⟨_, by rw [g1]; rfl, ?_⟩, zbn HB2.out (by omega) _ _ _⟩
    rw [g2]
    have e1v : fitv q.num.natAbs = q.num.natAbs := fitv_le (of_decide_eq_true Hb1.out.symm)
    have e2v : fitv q.den = q.den := fitv_le (of_decide_eq_true Hb2.out.symm)
    have hold : ∀ (lo : Nat) (x y z : Value), w.heap.size + 2 ≤ lo → Same (New lo w2) (New w.heap.size (put3 w2 (w.heap.size + 1) x y z)) w2 (put3 w2 (w.heap.size + 1) x y z) := fun lo x y z hlo => zce fun b h => ⟨by have := h.1; omega, by have := h.1; omega, by show b < _; rw [zcf]; exact h.2⟩
    have n1 := IsK.stb.to V1'.out (hold _ (.bool s) (.slice P1 (lim (fitv q.num.natAbs)).length k1) (.slice P2 (lim (fitv q.den)).length k2) (by omega))
    have n2 := IsK.stb.to V2.out (hold _ (.bool s) (.slice P1 (lim (fitv q.num.natAbs)).length k1) (.slice P2 (lim (fitv q.den)).length k2) (by omega))
    have hr : raw q = ⟨s, lim (fitv q.num.natAbs), lim (fitv q.den)⟩ := by rw [e1v, e2v, hs.out]; rfl
    exact isQ_mk hr n1 n2
  all_goals
    have hf : fitsQ q = false := by
      cases hx : fitsQ q with
      | false => rfl
      | true =>
        obtain ⟨x1, x2⟩ := fitsQ_true.1 hx
        first
          | (have h9 := Hb1.out; rw [decide_eq_true x1] at h9; cases h9; done)
          | (have h9 := Hb2.out; rw [decide_eq_true x2] at h9; cases h9; done)
    have g1 : gapE q = 5 := by unfold gapE; rw [hf]; rfl
    have g2 : gapR q = nilRaw := by unfold gapR; rw [hf]; rfl
    exact ⟨⟨_, by rw [g1]; rfl, by rw [g2]; exact isR_nil⟩, zbn HB2.out (by omega) _ _ _⟩
end Go.Proofs.YtblpaocignlpkaaGreatDoor
namespace Go.Proofs.YtblpaocignlpkaaGreatDoor
theorem rawV_snoc (l : List Rat) (x : Rat) : rawV (l ++ [x]) = rawV l ++ [raw x] := by simp [rawV]
end Go.Proofs.YtblpaocignlpkaaGreatDoor
