/-
  A solution that came in, with its status.
-/
import Derived.Test.YtblpaocignlpkaaGreatDoorCore17
import Derived.Test.YtblpaocignlpkaaGreatDoorCore16
import Derived.Test.YtblpaocignlpkaaGreatDoorCore04
import Derived.Test.YtblpaocignlpkaaGreatDoorCore06
import Derived.Test.YtblpaocignlpkaaGreatDoorCore01
import Derived.Deep.RegionLaw
namespace Go.Proofs.YtblpaocignlpkaaGreatDoor
open Go.RowKit Go.WideShapes Go.ChangeShapes Go.Deep
set_option linter.unusedVariables false
section
variable {H : Type} {enc : TypeId × Value → H} {w : World} {base base0 : Nat} {sp : Nat → Bool} {held : Bool}
set_option maxRecDepth 100000 in
theorem open_solw {v : Value} {d : DataW H} {ps : List MemPlace} (hlt : ∀ x ∈ ps, x.block < w.heap.size) (hval : Value.okWide Tryz.prog w .any base0 33 v) (h : DataW.Trod enc Tryz.prog w base sp held 33 v d ps) : ∃ s : Sol, IsSol w (Old w) v s ∧ (Lit.int .i64 s.st).wf = true := by
  obtain ⟨cs, rfl, _⟩ := okWide_struct Tryz.underlying33 hval
  obtain ⟨fuel, hf0⟩ := fuel_of h
  have hf1 : DataW.trod enc Tryz.prog w base sp held fuel 33 cs.toList = some (d, ps) := hf0
  obtain ⟨ys, n, _, hx, hlen, hyl, hf⟩ := DataW.trod_struct Tryz.underlying33 hf1
  have hc : Tryz.prog.cellsOf 33 = 7 := by kernel_rfl
  rw [hc] at hlen
  obtain ⟨l⟩ := cs
  simp only [Prod.mk.injEq] at hx
  match l, hlen with
  | [a, b, c, e, x, y, z], _ =>
    have l5 : ys.length = 5 := hyl
    have f0 : DataW.trod enc Tryz.prog w base sp held n 3 (([a, b, c, e, x, y, z].drop 0).take (Tryz.prog.cellsOf 3)) = ys[0]? := hf 0 _ rfl
    have f1 : DataW.trod enc Tryz.prog w base sp held n 31 (([a, b, c, e, x, y, z].drop 1).take (Tryz.prog.cellsOf 31)) = ys[1]? := hf 1 _ rfl
    have f2 : DataW.trod enc Tryz.prog w base sp held n 25 (([a, b, c, e, x, y, z].drop 4).take (Tryz.prog.cellsOf 25)) = ys[2]? := hf 2 _ rfl
    have f3 : DataW.trod enc Tryz.prog w base sp held n 25 (([a, b, c, e, x, y, z].drop 5).take (Tryz.prog.cellsOf 25)) = ys[3]? := hf 3 _ rfl
    have f4 : DataW.trod enc Tryz.prog w base sp held n 25 (([a, b, c, e, x, y, z].drop 6).take (Tryz.prog.cellsOf 25)) = ys[4]? := hf 4 _ rfl
    have c0 : Tryz.prog.cellsOf 3 = 1 := by kernel_rfl
    have c1 : Tryz.prog.cellsOf 25 = 1 := by kernel_rfl
    have c2 : Tryz.prog.cellsOf 31 = 3 := by kernel_rfl
    simp only [c0, c1, c2, List.drop_zero, List.drop_succ_cons, List.take_succ_cons, List.take_zero] at f0 f1 f2 f3 f4
    rw [List.getElem?_eq_getElem (by omega)] at f0 f1 f2 f3 f4
    have hp : ∀ y ∈ ys, ∀ p ∈ y.2, p.block < w.heap.size := fun y hy p hp => hlt p (by rw [hx.2]; exact List.mem_flatMap.2 ⟨y, hy, hp⟩)
    obtain ⟨k, hk1, _, hk⟩ := DataW.trod_int Tryz.underlying3 f0
    simp only [List.cons.injEq, and_true] at hk1
    subst hk1
    obtain ⟨s, vn, vd, r, hcs, hr, hn⟩ := rat_trod f1
    simp only [List.cons.injEq, and_true] at hcs
    obtain ⟨rfl, rfl, rfl⟩ := hcs
    obtain ⟨lx, hlx⟩ := zei f2 (hp _ (List.getElem_mem _))
    obtain ⟨ly, hly⟩ := zei f3 (hp _ (List.getElem_mem _))
    obtain ⟨lz, hlz⟩ := zei f4 (hp _ (List.getElem_mem _))
    have hlx' := hlx
    have hly' := hly
    have hlz' := hlz
    obtain ⟨A, ca, rfl, _⟩ := isV_lenR hlx
    obtain ⟨B, cb, rfl, _⟩ := isV_lenR hly
    obtain ⟨C, cc, rfl, _⟩ := isV_lenR hlz
    subst hn
    have hr' := hr
    obtain ⟨P, kp, Q, kq, hv, _⟩ := hr
    simp only [Value.agg.injEq, Array.mk.injEq, List.cons.injEq, and_true] at hv
    obtain ⟨_, rfl, rfl⟩ := hv
    exact ⟨⟨k, r, lx, ly, lz⟩, ⟨P, kp, Q, kq, A, ca, B, cb, C, cc, rfl, hr', hlx', hly', hlz'⟩, hk⟩
end
end Go.Proofs.YtblpaocignlpkaaGreatDoor
namespace Go.Proofs.YtblpaocignlpkaaGreatDoor
open Go.RowKit
set_option linter.unusedVariables false
def growsS (ops : Array Oper) (n m : Nat) : Bool :=
  decide (ops.size = n + 1) && (ops[n]?).any (fun o => o.guard.isNone && (zcp o).all fun j => decide (j < n)) && (List.range n).all fun i => (ops[i]?).any fun o =>
    (o.dst.any fun d => decide (d < m) && (List.range n).all fun j => decide (j = i) || !((ops[j]?).any fun oj => oj.dst == some d)) && ((zcp o).all fun j => decide (j < i)) &&
      (List.range (n + 1)).any fun k => decide (i < k) && (ops[k]?).any fun ok => (zcp ok).contains i
def slotN (ops : Array Oper) (n : Nat) (t : Nat) : Bool := (List.range n).any fun i => (ops[i]?).any fun o => o.dst == some t
section
variable {P : Program} {ops : Array Oper} {Q : Exit → Act → World → Prop} {Φ : Nat → Value → World → Prop} {a0 : Act} {w0 : World} {n : Nat}
theorem growsS_at {m i : Nat} {o : Oper} (h : growsS ops n m = true) (hin : i < n) (hi : ops[i]? = some o) :
    ∃ d, o.dst = some d ∧ d < m ∧ (∀ j oj, j < n → ops[j]? = some oj → oj.dst = some d → j = i) ∧ (∀ j ∈ zcp o, j < i) ∧ ∃ k ok, i < k ∧ k ≤ n ∧ ops[k]? = some ok ∧ i ∈ zcp ok := by
  unfold growsS at h
  rw [Bool.and_eq_true, Bool.and_eq_true] at h
  have h1 := List.all_eq_true.1 h.2 i (List.mem_range.2 hin)
  rw [hi] at h1
  simp only [Option.any_some, Bool.and_eq_true] at h1
  obtain ⟨⟨h2, h3⟩, h4⟩ := h1
  cases hd : o.dst with
  | none => rw [hd] at h2; simp at h2
  | some d =>
    rw [hd] at h2
    simp only [Option.any_some, Bool.and_eq_true, decide_eq_true_eq] at h2
    refine ⟨d, rfl, h2.1, fun j oj hjn hj hoj => ?_, fun j hj => by simpa using List.all_eq_true.1 h3 j hj, ?_⟩
    · have h4 := List.all_eq_true.1 h2.2 j (List.mem_range.2 hjn)
      rw [hj] at h4
      simp only [Option.any_some, hoj, beq_self_eq_true, Bool.not_true, Bool.or_false, decide_eq_true_eq] at h4
      exact h4
    · obtain ⟨k, hk, h5⟩ := List.any_eq_true.1 h4
      rw [Bool.and_eq_true, decide_eq_true_eq] at h5
      cases hok : ops[k]? with
      | none => rw [hok] at h5; simp at h5
      | some ok =>
        rw [hok] at h5
        exact ⟨k, ok, h5.1, Nat.lt_succ_iff.1 (List.mem_range.1 hk), hok, by simpa using h5.2⟩
theorem growsS_last {m : Nat} (h : growsS ops n m = true) : ops.size = n + 1 ∧ ∃ o, ops[n]? = some o ∧ o.guard = none ∧ ∀ j ∈ zcp o, j < n := by
  unfold growsS at h
  rw [Bool.and_eq_true, Bool.and_eq_true, decide_eq_true_eq] at h
  refine ⟨h.1.1, ?_⟩
  cases ho : ops[n]? with
  | none => have := h.1.2; rw [ho] at this; simp at this
  | some o =>
    have := h.1.2
    rw [ho] at this
    simp only [Option.any_some, Bool.and_eq_true, Option.isNone_iff_eq_none] at this
    exact ⟨o, rfl, this.1, fun j hj => by simpa using List.all_eq_true.1 this.2 j hj⟩
structure GrowInvS (ops : Array Oper) (n : Nat) (Φ : Nat → Value → World → Prop) (a0 : Act) (w0 : World) (listed : Array Bool) (a : Act) (w : World) : Prop where
  size : a.tmps.size = a0.tmps.size
  defers : a.defers = a0.defers
  below : Below w0.heap.size w0 w
  free : ∀ t, slotN ops n t = false → a.tmps[t]? = a0.tmps[t]?
  holds : ∀ j oj d, j < n → ops[j]? = some oj → listed[j]? = some true → oj.dst = some d → Φ j (a.tmps.getD d undef) w
  down : ∀ (i : Nat) (o : Oper), ops[i]? = some o → listed[i]? = some true → ∀ j ∈ zcp o, listed[j]? = some true
  last : listed[n]? = some false
theorem all_listed {m : Nat} {listed : Array Bool} (hg : growsS ops n m = true) (hlast : ∀ o, ops[n]? = some o → ∀ j ∈ zcp o, listed[j]? = some true) (hdown : ∀ (i : Nat) (o : Oper), ops[i]? = some o → listed[i]? = some true → ∀ j ∈ zcp o, listed[j]? = some true) :
    ∀ j, j < n → listed[j]? = some true := by
  have key : ∀ k j, n - k ≤ j → j < n → listed[j]? = some true := by
    intro k
    induction k with
    | zero => intro j h1 h2; omega
    | succ k ih =>
      intro j h1 h2
      rcases Nat.lt_or_ge j (n - k) with h | h
      · obtain ⟨hs, _⟩ := growsS_last hg
        have hlt : j < ops.size := by omega
        obtain ⟨d, _, _, _, _, i, oi, hji, hin, hoi, hmem⟩ := growsS_at hg h2 (Array.getElem?_eq_getElem hlt)
        rcases Nat.lt_or_ge i n with h3 | h3
        · exact hdown i oi hoi (ih i (by omega) h3) j hmem
        · obtain rfl : i = n := by omega
          exact hlast oi hoi j hmem
      · exact ih j h h2
  exact fun j hj => key n j (by omega) hj
theorem wpAny_growS (hst : ∀ i v w w', Φ i v w → Below w.heap.size w w' → Φ i v w') (hg : growsS ops n a0.tmps.size = true)
    (hstep : ∀ i o, i < n → ops[i]? = some o → ∀ (a : Act) (w : World), a.tmps.size = a0.tmps.size → a.defers = a0.defers → Below w0.heap.size w0 w → (∀ t, slotN ops n t = false → a.tmps[t]? = a0.tmps[t]?) →
      (∀ j oj d, j ∈ zcp o → ops[j]? = some oj → oj.dst = some d → Φ j (a.tmps.getD d undef) w) →
      if Region.wanted o (yielded ops a.tmps) = true then o.wp P a w (fun a' w' => ∃ v, a' = a.put o.dst v ∧ Below w.heap.size w w' ∧ Φ i v w') Q else Φ i undef w)
    (hend : ∀ o, ops[n]? = some o → ∀ (a : Act) (w : World), a.tmps.size = a0.tmps.size → a.defers = a0.defers → Below w0.heap.size w0 w → (∀ t, slotN ops n t = false → a.tmps[t]? = a0.tmps[t]?) →
      (∀ j oj d, j < n → ops[j]? = some oj → oj.dst = some d → Φ j (a.tmps.getD d undef) w) → o.wp P a w (fun a' w' => Q .normal a' w') Q) :
    ∀ (fuel : Nat) (listed : Array Bool) (a : Act) (w : World), listed.size = ops.size → cntU listed.toList ≤ fuel → GrowInvS ops n Φ a0 w0 listed a w → wpAny P .any ops Q fuel listed a w := by
  obtain ⟨hsize, oL, hoL, hgL, hnL⟩ := growsS_last hg
  have stuck : ∀ (listed : Array Bool) (a : Act) (w : World), listed.size = ops.size → Region.ready .any ops listed = [] → GrowInvS ops n Φ a0 w0 listed a w → False := by
    intro listed a w hsz hr inv
    have all : ∀ k i, i < k → i < n → listed[i]? = some true := by
      intro k
      induction k with
      | zero => intro i hi; omega
      | succ k ih =>
        intro i hi hlt
        rcases Nat.lt_or_ge i k with h | h
        · exact ih i h hlt
        · obtain rfl : i = k := by omega
          have hlo : i < ops.size := by omega
          have hl : i < listed.size := by omega
          cases hb : listed[i] with
          | true => rw [Array.getElem?_eq_getElem hl, hb]
          | false =>
            exfalso
            have hm : i ∈ Region.ready .any ops listed := by
              unfold Region.ready
              refine List.mem_filter.2 ⟨List.mem_range.2 hlo, ?_⟩
              have hi : ops[i]? = some ops[i] := Array.getElem?_eq_getElem hlo
              obtain ⟨d, hd, _, _, hn, _⟩ := growsS_at hg hlt hi
              rw [hi]
              simp only [Option.map_some, Option.getD_some, Bool.and_eq_true, Bool.not_eq_true']
              refine ⟨by simp [Array.getD_eq_getD_getElem?, Array.getElem?_eq_getElem hl, hb], Array.all_eq_true'.2 fun e he => ?_⟩
              cases hbd : Region.binds .any e with
              | false => rfl
              | true =>
                have hj := hn e.on (List.mem_map.2 ⟨e, List.mem_filter.2 ⟨by simpa using he, hbd⟩, rfl⟩)
                have := ih e.on hj (by omega)
                simp [Array.getD_eq_getD_getElem?, this]
            rw [hr] at hm
            cases hm
    have hm : n ∈ Region.ready .any ops listed := by
      unfold Region.ready
      refine List.mem_filter.2 ⟨List.mem_range.2 (by omega), ?_⟩
      rw [hoL]
      simp only [Option.map_some, Option.getD_some, Bool.and_eq_true, Bool.not_eq_true']
      refine ⟨by rw [Array.getD_eq_getD_getElem?, inv.last]; rfl, Array.all_eq_true'.2 fun e he => ?_⟩
      cases hbd : Region.binds .any e with
      | false => rfl
      | true =>
        have hj := hnL e.on (List.mem_map.2 ⟨e, List.mem_filter.2 ⟨by simpa using he, hbd⟩, rfl⟩)
        have := all (e.on + 1) e.on (by omega) hj
        simp [Array.getD_eq_getD_getElem?, this]
    rw [hr] at hm
    cases hm
  have ended : ∀ (fuel : Nat) (listed : Array Bool) (a : Act) (w : World), listed.size = ops.size → (∀ j, j < ops.size → listed[j]? = some true) → Q .normal a w → wpAny P .any ops Q fuel listed a w := by
    intro fuel listed a w hsz hall hQ
    have hr : Region.ready .any ops listed = [] := by
      cases hr : Region.ready .any ops listed with
      | nil => rfl
      | cons i l =>
        exfalso
        have hm : i ∈ Region.ready .any ops listed := by rw [hr]; simp
        have hlt : i < ops.size := by
          unfold Region.ready at hm
          exact List.mem_range.1 (List.mem_filter.1 hm).1
        have h1 := (zdq (Array.getElem?_eq_getElem hlt) hm).1
        simp [Array.getD_eq_getD_getElem?, hall i hlt] at h1
    cases fuel with
    | zero => exact ⟨hr, hQ⟩
    | succ fuel => exact ⟨fun _ => hQ, fun i hm => by rw [hr] at hm; cases hm⟩
  intro fuel
  induction fuel with
  | zero =>
    intro listed a w hsz hc inv
    have hr : Region.ready .any ops listed = [] := by
      cases hr : Region.ready .any ops listed with
      | nil => rfl
      | cons i l =>
        exfalso
        have hm : i ∈ Region.ready .any ops listed := by rw [hr]; simp
        have hlt : i < ops.size := by
          unfold Region.ready at hm
          exact List.mem_range.1 (List.mem_filter.1 hm).1
        have h1 := (zdq (Array.getElem?_eq_getElem hlt) hm).1
        have hl : i < listed.size := by omega
        have h2 := cntU_zero (l := listed.toList) (i := i) (b := listed[i]) (by omega) (by simp [hl])
        simp [Array.getD_eq_getD_getElem?, Array.getElem?_eq_getElem hl, h2] at h1
    exact (stuck listed a w hsz hr inv).elim
  | succ fuel ih =>
    intro listed a w hsz hc inv
    refine ⟨fun hr => (stuck listed a w hsz hr inv).elim, fun i hm => ?_⟩
    have hlt : i < ops.size := by
      unfold Region.ready at hm
      exact List.mem_range.1 (List.mem_filter.1 hm).1
    have hi : ops[i]? = some ops[i] := Array.getElem?_eq_getElem hlt
    obtain ⟨h1, h2⟩ := zdq hi hm
    have hl : i < listed.size := by omega
    have hb : listed[i] = false := by simpa [Array.getD_eq_getD_getElem?, Array.getElem?_eq_getElem hl] using h1
    have need : ∀ j ∈ zcp ops[i], listed[j]? = some true := by
      intro j hj
      have h3 := h2 j hj
      rcases Nat.lt_or_ge j listed.size with hjl | hjl
      · rw [Array.getElem?_eq_getElem hjl]
        simp only [Array.getD_eq_getD_getElem?, Array.getElem?_eq_getElem hjl, Option.getD_some] at h3
        rw [h3]
      · simp [Array.getD_eq_getD_getElem?, Array.getElem?_eq_none hjl] at h3
    rcases Nat.lt_or_ge i n with hin | hin
    · obtain ⟨d, hd, hdn, hdu, _, _⟩ := growsS_at hg hin hi
      have hs := hstep i ops[i] hin hi a w inv.size inv.defers inv.below inv.free fun j oj dj hj hoj hdj => inv.holds j oj dj (by
        have := growsS_at hg hin hi
        obtain ⟨_, _, _, _, h5, _⟩ := this
        have := h5 j hj
        omega) hoj (need j hj) hdj
      have next : ∀ (v : Value) (w' : World), Below w.heap.size w w' → Φ i v w' → wpAny P .any ops Q fuel (listed.setIfInBounds i true) (a.put ops[i].dst v) w' := by
        intro v w' hbw hv
        rw [hd]
        refine ih _ _ _ (by simp [hsz]) ?_ ⟨by rw [put_size]; exact inv.size, inv.defers, inv.below.trans (hbw.mono inv.below.size), fun t ht => ?_, fun j oj dj hjn hj hlj hdj => ?_, fun k o hk hlk j hj => ?_, ?_⟩
        · have := cntU_set (l := listed.toList) (i := i) (by simp [hl, hb])
          simp only [Array.toList_setIfInBounds]
          omega
        · rw [put_other _ _ (by
            rintro rfl
            unfold slotN at ht
            rw [List.any_eq_false] at ht
            have := ht i (List.mem_range.2 hin)
            rw [hi] at this
            simp [hd] at this)]
          exact inv.free t ht
        · by_cases hji : j = i
          · subst hji
            rw [hi] at hj
            cases hj
            rw [hd] at hdj
            cases hdj
            rw [put_same _ _ (by rw [inv.size]; exact hdn)]
            exact hv
          · have hne : dj ≠ d := fun e => hji (hdu j oj hjn hj (by rw [hdj, e]))
            rw [getD_of (put_other a v hne)]
            refine hst _ _ _ _ (inv.holds j oj dj hjn hj ?_ hdj) hbw
            rwa [Array.getElem?_setIfInBounds_ne (Ne.symm hji)] at hlj
        · have hj' : listed[j]? = some true := by
            by_cases hki : k = i
            · subst hki
              rw [hi] at hk
              cases hk
              exact need j hj
            · rw [Array.getElem?_setIfInBounds_ne (Ne.symm hki)] at hlk
              exact inv.down k o hk hlk j hj
          by_cases hji : j = i
          · subst hji
            rw [Array.getElem?_setIfInBounds_self_of_lt hl]
          · rw [Array.getElem?_setIfInBounds_ne (Ne.symm hji)]
            exact hj'
        · rw [Array.getElem?_setIfInBounds_ne (by omega)]
          exact inv.last
      unfold wpOp
      rw [hi]
      simp only
      split
      · rename_i hw
        rw [if_pos hw] at hs
        exact .inl (Oper.wp_mono (fun a' w' ⟨v, ha, hbw, hv⟩ => by rw [ha]; exact next v w' hbw hv) hs)
      · rename_i hw
        rw [if_neg hw] at hs
        exact next undef w (Below.refl _ _) hs
    · obtain rfl : i = n := by omega
      have hoi : ops[i] = oL := by rw [hi] at hoL; exact Option.some.inj hoL
      have hall := all_listed hg (fun o ho j hj => by rw [hi] at ho; cases ho; exact need j hj) inv.down
      have hs := hend ops[i] hi a w inv.size inv.defers inv.below inv.free fun j oj dj hjn hoj hdj => inv.holds j oj dj hjn hoj (hall j hjn) hdj
      unfold wpOp
      rw [hi]
      simp only
      have hw : Region.wanted ops[i] (yielded ops a.tmps) = true := by rw [hoi]; unfold Region.wanted; rw [hgL]
      rw [if_pos hw]
      refine .inl (Oper.wp_mono (fun a' w' hQ => ended _ _ _ _ (by simp [hsz]) (fun j hj => ?_) hQ) hs)
      by_cases hji : j = i
      · subst hji
        rw [Array.getElem?_setIfInBounds_self_of_lt hl]
      · rw [Array.getElem?_setIfInBounds_ne (Ne.symm hji)]
        exact hall j (by omega)
theorem wp_region_growS {id : Nat} (n : Nat) (Φ : Nat → Value → World → Prop) (hm : P.follows .mixedOrders = true) (hst : ∀ i v w w', Φ i v w → Below w.heap.size w w' → Φ i v w') (hg : growsS ops n a0.tmps.size = true)
    (hstep : ∀ i o, i < n → ops[i]? = some o → ∀ (a : Act) (w : World), a.tmps.size = a0.tmps.size → a.defers = a0.defers → Below w0.heap.size w0 w → (∀ t, slotN ops n t = false → a.tmps[t]? = a0.tmps[t]?) →
      (∀ j oj d, j ∈ zcp o → ops[j]? = some oj → oj.dst = some d → Φ j (a.tmps.getD d undef) w) →
      if Region.wanted o (yielded ops a.tmps) = true then o.wp P a w (fun a' w' => ∃ v, a' = a.put o.dst v ∧ Below w.heap.size w w' ∧ Φ i v w') Q else Φ i undef w)
    (hend : ∀ o, ops[n]? = some o → ∀ (a : Act) (w : World), a.tmps.size = a0.tmps.size → a.defers = a0.defers → Below w0.heap.size w0 w → (∀ t, slotN ops n t = false → a.tmps[t]? = a0.tmps[t]?) →
      (∀ j oj d, j < n → ops[j]? = some oj → oj.dst = some d → Φ j (a.tmps.getD d undef) w) → o.wp P a w (fun a' w' => Q .normal a' w') Q) :
    (Code.region id ops true).wp P Q a0 w0 := by
  have hs := (growsS_last hg).1
  refine wp_region_any hm (wpAny_growS hst hg hstep hend _ _ _ _ (by simp) (by simp [zfr]) ⟨rfl, rfl, ⟨rfl, rfl, rfl, Nat.le_refl _, fun _ _ => rfl⟩, fun _ _ => rfl, fun j oj d hjn hj hlj hd => ?_, fun i o hi hl => ?_, ?_⟩)
  · rw [Array.getElem?_replicate] at hlj
    split at hlj <;> cases hlj
  · rw [Array.getElem?_replicate] at hl
    split at hl <;> cases hl
  · rw [Array.getElem?_replicate, if_pos (by omega)]
end
theorem zal {T : Array Value} {t : Nat} {v : Value} (h : t < T.size) (hv : T.getD t undef = v) : T[t]? = some v := by
  rw [Array.getElem?_eq_getElem h]
  simp only [Array.getD_eq_getD_getElem?, Array.getElem?_eq_getElem h, Option.getD_some] at hv
  rw [hv]
theorem zbz {T : Array Value} {t : Nat} (h : t < T.size) : ∃ v, T[t]? = some v ∧ T.getD t undef = v := ⟨_, zal h rfl, rfl⟩
theorem grow_on {o oj : Oper} {ops : Array Oper} {T : Array Value} {j d : Nat} {want : Bool} {A B : Prop} (hg : o.guard = some (j, want)) (hj : ops[j]? = some oj) (hd : oj.dst = some d) (hT : T[d]? = some (.bool want)) (h : A) :
    if Region.wanted o (yielded ops T) = true then A else B := by
  rw [if_pos (by simp [Region.wanted, yielded, hg, hj, hd, hT])]
  exact h
theorem grow_off {o oj : Oper} {ops : Array Oper} {T : Array Value} {j d : Nat} {want b : Bool} {A B : Prop} (hg : o.guard = some (j, want)) (hj : ops[j]? = some oj) (hd : oj.dst = some d) (hT : T[d]? = some (.bool b)) (hne : b ≠ want) (h : B) :
    if Region.wanted o (yielded ops T) = true then A else B := by
  rw [if_neg (by simp [Region.wanted, yielded, hg, hj, hd, hT]; exact hne)]
  exact h
theorem zao {o : Oper} {ops : Array Oper} {T : Array Value} {A B : Prop} (hg : o.guard = none) (h : A) :
    if Region.wanted o (yielded ops T) = true then A else B := by
  rw [if_pos (by simp [Region.wanted, hg])]
  exact h
theorem zey {P : Program} {id : Nat} {lit : Array Oper} {d : Bool} {Q : Exit → Act → World → Prop} {a : Act} {w : World} (h : ∀ ops, ops = lit → (Code.region id ops d).wp P Q a w) : (Code.region id lit d).wp P Q a w := h lit rfl
theorem zaw {ops lit : Array Oper} {j : Nat} {o : Oper} (h : ops = lit) (ho : lit[j]? = some o) : ops[j]? = some o := by rw [h]; exact ho
theorem slot_abs {ops lit : Array Oper} (h : ops = lit) (t : Nat) (hs : zfo lit t = false) : zfo ops t = false := by rw [h]; exact hs
theorem slotN_abs {ops lit : Array Oper} {n : Nat} (h : ops = lit) (t : Nat) (hs : slotN lit n t = false) : slotN ops n t = false := by rw [h]; exact hs
theorem odt {p : Prop} [Decidable p] (h : decide p = true) : p := of_decide_eq_true h
theorem zap {o oj : Oper} {ops : Array Oper} {T : Array Value} {j d : Nat} {want C : Bool} {A B : Prop} (hg : o.guard = some (j, want)) (hj : ops[j]? = some oj) (hd : oj.dst = some d) (hT : T.getD d undef = .bool C) (hs : d < T.size)
    (hon : C = want → T[d]? = some (.bool want) → A) (hoff : C = !want → B) : if Region.wanted o (yielded ops T) = true then A else B := by
  have e := zal hs hT
  by_cases hc : C = want
  · subst hc
    exact grow_on hg hj hd e (hon rfl e)
  · exact grow_off hg hj hd e hc (hoff (by cases C <;> cases want <;> simp_all))
theorem zai {P : Program} {o : Oper} {a : Act} {w : World} {Φ : Value → World → Prop} {Q : Exit → Act → World → Prop} (h : ∀ K : Act → World → Prop, (∀ v w', Below w.heap.size w w' → Φ v w' → K (a.put o.dst v) w') → o.wp P a w K Q) : o.wp P a w (fun a' w' => ∃ v, a' = a.put o.dst v ∧ Below w.heap.size w w' ∧ Φ v w') Q :=
  h _ fun v w' hb hv => ⟨v, rfl, hb, hv⟩
theorem last_k {P : Program} {o : Oper} {a : Act} {w : World} {Q : Exit → Act → World → Prop} (h : ∀ K : Act → World → Prop, (∀ a w, Q .normal a w → K a w) → o.wp P a w K Q) : o.wp P a w (fun a' w' => Q .normal a' w') Q := h _ fun _ _ h => h
theorem len_cons {l : List Value} {n : Nat} (h : l.length = n + 1) : ∃ x k, l = x :: k ∧ k.length = n := by
  cases l with
  | nil => cases h
  | cons x k => exact ⟨x, k, rfl, by simpa using h⟩
set_option maxHeartbeats 400000 in
theorem rtrim_same (A : Option Addr) (c : Nat) (l : List Nat) (w : World) (lo hi : Nat) (hl : Lo l) (hll : l.length ≤ c) (hlc : c ≤ maxLen) (hA : SV w lo hi A (cel .u32 l)) :
    Calls Tryz.prog 145 #[.slice A l.length c] w fun e w' => (∃ m, e = .returned (.slice A m c) ∧ m ≤ l.length ∧ lim (val l) = l.take m) ∧ w = w' := by
  have Hlc2 := Lib.hid hlc
  unfold maxLen at hlc
  have Hl := Lib.hid hl; clear hl
  go_enter Tryz.func145, Tryz.ntmps145
  go_wp2
  go_loop [0] (fun s => ∃ m : Nat, m ≤ l.length ∧ s = .slice A m c ∧ Hid (∀ j, m ≤ j → j < l.length → l.getD j 0 = 0)) (fun s => match s with | .slice _ m _ => m | _ => 0)
  case atStart => exact ⟨l.length, Nat.le_refl _, rfl, Lib.hid (by intro j h1 h2; omega)⟩
  case round =>
    obtain ⟨m, hm, rfl, hz⟩ := hrel
    rcases m with _ | m
    · go_wp2
      go_ret
      exact ⟨⟨0, rfl, Nat.zero_le _, trim_to Hl.out (Nat.zero_le _) hz.out (.inl rfl)⟩, rfl⟩
    · obtain ⟨ba, oa, rfl, _, _, hca⟩ := hA (zbt hm)
      obtain ⟨x, hx, hx0, hxc⟩ := zdx (j := m) hca (by omega)
      clear hca
      by_cases h0 : x = 0
      · subst h0
        go_wp2
        go_round
        case rel => exact ⟨m, by omega, rfl, Lib.hid (by
          intro j h1 h2
          rcases Nat.eq_or_lt_of_le h1 with h3 | h3
          · subst h3; have := hx.out; omega
          · exact hz.out j h3 h2)⟩
        case measure => simp
      · have hb : (x == 0) = false := by simpa using h0
        go_wp2
        go_ret
        exact ⟨⟨m + 1, rfl, hm, trim_to Hl.out hm hz.out (.inr (by have := hx.out; simp only [Nat.add_sub_cancel]; omega))⟩, rfl⟩
theorem rtrim_list (A : Option Addr) (c : Nat) (l : List Nat) (w : World) (lo hi : Nat) (hl : Lo l) (hll : l.length ≤ c) (hlc : c ≤ maxLen) (hA : SV w lo hi A (cel .u32 l)) :
    Calls Tryz.prog 145 #[.slice A l.length c] w fun e w' => (∃ v, e = .returned v ∧ IsN w lo hi v (val l)) ∧ w = w' :=
  (rtrim_same A c l w lo hi hl hll hlc hA).mono fun e w' ⟨⟨m, he, hm, ht⟩, hw⟩ => ⟨⟨_, he, A, c, by rw [ht, List.length_take, Nat.min_eq_left hm], by rw [ht, List.length_take]; omega, hlc, by rw [ht, cel_take]; exact hA.take m⟩, hw⟩
theorem rtrim_l {w : World} {va : Value} {l : List Nat} {lo hi : Nat} (ha : IsL .u32 w lo hi va l) (hl : Lo l) :
    Calls Tryz.prog 145 #[va] w fun e w' => (∃ v, e = .returned v ∧ IsN w lo hi v (val l)) ∧ w = w' := by
  obtain ⟨A, c, rfl, hc, hcm, hA⟩ := ha
  exact rtrim_list A c l w lo hi hl hc hcm hA
set_option maxRecDepth 100000 in
set_option maxHeartbeats 1000000 in
theorem rplus_n {w : World} {va vb : Value} {x y : Nat} {lo hi lo' hi' : Nat} (ha : IsN w lo hi va x) (hb : IsN w lo' hi' vb y) (hi1 : hi ≤ w.heap.size) (hi2 : hi' ≤ w.heap.size) (hx : (lim x).length ≤ 4294967296) (hy : (lim y).length ≤ 4294967296) :
    Calls Tryz.prog 97 #[va, vb] w fun e w' => (∃ v, e = .returned v ∧ IsN w' w.heap.size w'.heap.size v (x + y)) ∧ Below w.heap.size w w' := by
  obtain ⟨A, c, rfl, _, _, hA⟩ := ha
  obtain ⟨B, d, rfl, _, _, hB⟩ := hb
  obtain ⟨M, hM1, hM2, hM3⟩ : ∃ M : Nat, (lim x).length ≤ M ∧ (lim y).length ≤ M ∧ (M = (lim x).length ∨ M = (lim y).length) := ⟨max (lim x).length (lim y).length, by omega, by omega, by omega⟩
  have hM : Hid (∀ k, k < M → pw k ≤ x + y) := by
    intro k hk
    rcases hM3 with h | h
    · have := zfn (x := x) (k := k) (by omega); omega
    · have := zfn (x := y) (k := k) (by omega); omega
  generalize hla : lim x = a at *
  generalize hlb : lim y = b at *
  have Hal : Hid (Lo a ∧ val a = x) := by rw [Hid, ← hla]; exact ⟨zbp x, zbl x⟩
  have Hbl : Hid (Lo b ∧ val b = y) := by rw [Hid, ← hlb]; exact ⟨zbp y, zbl y⟩
  have hM4 : M ≤ 4294967296 := by omega
  clear hla hlb hM3
  generalize hBs : w.heap.size = bs at *
  have HB := Lib.hid hBs; clear hBs
  go_enter Tryz.func97, Tryz.ntmps97
  go_wp2
  go_loopw [5, 6, 7] (fun v cy i wr => ∃ (k : Nat) (L : List Nat) (q : Int), k ≤ M + 1 ∧ i = .int .i64 (k : Int) ∧ cy = .int .u32 q ∧ 0 ≤ q ∧ q ≤ 1 ∧ Own wr bs 103 v (cel .u32 L) ∧ Below bs w wr ∧
      Hid (L.length = k ∧ Lo L ∧ (val L : Int) + q * pw k = val (a.take k) + val (b.take k) ∧ (M < k → q = 0 ∧ pw M ≤ val L))) (fun _ _ i _ => M + 1 - (intOf i).toNat)
  case atStart => exact ⟨0, [], 0, by omega, rfl, rfl, by omega, by omega, Own.nil _ _ _, Below.refl _ _, rfl, lo_nil, by simp [val], fun h => by omega⟩
  case round =>
    obtain ⟨k, L, q, hk, rfl, rfl, hq0, hq1, hown, hbw, hrel⟩ := hrel
    have hBw : bs ≤ wr.heap.size := by have := hbw.size; have := HB.out; omega
    have hkc : k ≤ 4294967297 := by omega
    have hlen : Hid ((cel .u32 L).length ≤ 4294967297) := by rw [Hid, zbv, hrel.out.1]; omega
    rcases Nat.lt_or_ge k a.length with hka | hka
    · obtain ⟨ba, oa, rfl, _, _, hca⟩ := (hA.below hbw hi1) (zbt (j := k) hka)
      obtain ⟨x1, hx1, hx10, hx11, hx1c⟩ := zbu (j := k) Hal.out.1 hca hka
      clear hca
      rcases Nat.lt_or_ge k b.length with hkb | hkb
      · obtain ⟨bb, ob, rfl, _, _, hcb⟩ := (hB.below hbw hi2) (zbt (j := k) hkb)
        obtain ⟨y1, hy1, hy10, hy11, hy1c⟩ := zbu (j := k) Hbl.out.1 hcb hkb
        clear hcb
        go_wp2_with (at_builtin; refine zct elN rfl _ _ rfl rfl hown rfl rfl (by have := hlen.out; omega) hBw ?_; intro v1 w1 hown1 hbw1 hz1)
        go_roundw
        case rel =>
          rw [zcc .u32 L ((q + x1 + y1) % 1000000000).toNat _ (by omega)] at hown1
          exact ⟨k + 1, _, (q + x1 + y1) / 1000000000, by omega, by go_num, rfl, by omega, by omega, hown1, hbw.trans hbw1, by rw [List.length_append]; simp [hrel.out.1], zdb hrel.out.2.1 (by omega), zcz hrel.out.1 hx1.out hy1.out (by omega) (by omega) hrel.out.2.2.1, fun h => by omega⟩
        case measure => simp [intOf]; omega
      · go_wp2_with (at_builtin; refine zct elN rfl _ _ rfl rfl hown rfl rfl (by have := hlen.out; omega) hBw ?_; intro v1 w1 hown1 hbw1 hz1)
        go_roundw
        case rel =>
          rw [zcc .u32 L ((q + x1) % 1000000000).toNat _ (by omega)] at hown1
          exact ⟨k + 1, _, (q + x1) / 1000000000, by omega, by go_num, rfl, by omega, by omega, hown1, hbw.trans hbw1, by rw [List.length_append]; simp [hrel.out.1], zdb hrel.out.2.1 (by omega), zcz (y := 0) hrel.out.1 hx1.out (by rw [zck hkb]; rfl) (by omega) (by omega) hrel.out.2.2.1, fun h => by omega⟩
        case measure => simp [intOf]; omega
    · rcases Nat.lt_or_ge k b.length with hkb | hkb
      · obtain ⟨bb, ob, rfl, _, _, hcb⟩ := (hB.below hbw hi2) (zbt (j := k) hkb)
        obtain ⟨y1, hy1, hy10, hy11, hy1c⟩ := zbu (j := k) Hbl.out.1 hcb hkb
        clear hcb
        go_wp2_with (at_builtin; refine zct elN rfl _ _ rfl rfl hown rfl rfl (by have := hlen.out; omega) hBw ?_; intro v1 w1 hown1 hbw1 hz1)
        go_roundw
        case rel =>
          rw [zcc .u32 L ((q + y1) % 1000000000).toNat _ (by omega)] at hown1
          exact ⟨k + 1, _, (q + y1) / 1000000000, by omega, by go_num, rfl, by omega, by omega, hown1, hbw.trans hbw1, by rw [List.length_append]; simp [hrel.out.1], zdb hrel.out.2.1 (by omega), zcz (x := 0) hrel.out.1 (by rw [zck hka]; rfl) hy1.out (by omega) (by omega) hrel.out.2.2.1, fun h => by omega⟩
        case measure => simp [intOf]; omega
      · have hV : Hid ((val L : Int) + q * pw k = x + y) := by
          have := hrel.out.2.2.1
          rw [zbb hka, zbb hkb, Hal.out.2, Hbl.out.2] at this
          exact this
        rcases Int.lt_or_le 0 q with hqp | hqz
        · have hkM : k ≤ M := by
            rcases Nat.lt_or_ge M k with h | h
            · have := hrel.out.2.2.2 h; omega
            · exact h
          go_wp2_with (at_builtin; refine zct elN rfl _ _ rfl rfl hown rfl rfl (by have := hlen.out; omega) hBw ?_; intro v1 w1 hown1 hbw1 hz1)
          go_roundw
          case rel =>
            rw [zcc .u32 L (q % 1000000000).toNat _ (by omega)] at hown1
            refine ⟨k + 1, _, q / 1000000000, by omega, by go_num, rfl, by omega, by omega, hown1, hbw.trans hbw1, by rw [List.length_append]; simp [hrel.out.1], zdb hrel.out.2.1 (by omega), zcz (x := 0) (y := 0) hrel.out.1 (by rw [zck hka]; rfl) (by rw [zck hkb]; rfl) (by omega) (by omega) hrel.out.2.2.1, fun h => ⟨by omega, ?_⟩⟩
            rw [zcd, hrel.out.1, show (q % 1000000000).toNat = 1 from by omega, show k = M from by omega, zfm, zfe]
            omega
          case measure => simp [intOf]; omega
        · obtain rfl : q = 0 := by omega
          have hfin : Hid (lim (x + y) = L) := by
            have h1 : val L = x + y := by have := hV.out; omega
            rw [Hid, ← h1]
            refine zex hrel.out.2.1 ?_
            rcases Nat.lt_or_ge M k with h | h
            · exact .inr (by rw [hrel.out.1, show k - 1 = M from by omega]; exact (hrel.out.2.2.2 h).2)
            · rcases Nat.eq_zero_or_pos k with h0 | h0
              · exact .inl (List.eq_nil_of_length_eq_zero (by rw [hrel.out.1]; exact h0))
              · exact .inr (by rw [hrel.out.1, h1]; exact hM.out (k - 1) (by omega))
          go_wp2
          go_ret
          refine ⟨⟨_, rfl, ?_⟩, hbw⟩
          unfold IsN
          rw [hfin.out]
          exact Own.isL hown
set_option maxRecDepth 100000 in
set_option maxHeartbeats 1000000 in
theorem zev {w : World} {va vb : Value} {x y : Nat} {lo hi lo' hi' : Nat} (ha : IsN w lo hi va x) (hb : IsN w lo' hi' vb y) (hi1 : hi ≤ w.heap.size) (hi2 : hi' ≤ w.heap.size) (hx : (lim x).length ≤ 4294967296) (hy : (lim y).length ≤ 4294967296) :
    Calls Tryz.prog 95 #[va, vb] w fun e w' => (∃ v, e = .returned v ∧ IsN w' w.heap.size w'.heap.size v (x * y)) ∧ Below w.heap.size w w' := by
  obtain ⟨A, c, rfl, _, _, hA⟩ := ha
  obtain ⟨B, d, rfl, _, _, hB⟩ := hb
  generalize hla : lim x = a at *
  generalize hlb : lim y = b at *
  have Hal : Hid (Lo a ∧ val a = x) := by rw [Hid, ← hla]; exact ⟨zbp x, zbl x⟩
  have Hbl : Hid (Lo b ∧ val b = y) := by rw [Hid, ← hlb]; exact ⟨zbp y, zbl y⟩
  clear hla hlb
  go_enter Tryz.func95, Tryz.ntmps95
  go_wp2_with (at_make; refine wp_make elN rfl _ _ rfl (a.length + b.length) rfl rfl rfl rfl (by omega) ?_; intro G w1 hG hrow hb1 hz1)
  go_loopw [6] (fun i wr => ∃ k : Nat, ∃ L : List Nat, k ≤ a.length ∧ i = .int .i64 (k : Int) ∧ Row wr G 103 (cel .u32 L) ∧ Below G w wr ∧ Hid (wr.heap.size = G + 1) ∧
      Hid (L.length = a.length + b.length ∧ Lo L ∧ (∀ j, k + b.length ≤ j → L.getD j 0 = 0) ∧ val L = val (a.take k) * val b)) (fun i _ => a.length - (intOf i).toNat)
  case atStart => exact ⟨0, _, Nat.zero_le _, rfl, hrow, hb1, hz1, by simp, zcw _, fun j _ => by rw [List.getD_eq_getElem?_getD, List.getElem?_replicate]; split <;> rfl, by rw [val_nil_take, Nat.zero_mul]; exact val_zeros (fun x hx => (List.mem_replicate.1 hx).2)⟩
  case round =>
    obtain ⟨k, L, hk, rfl, hr, hbw, hsz, hrel⟩ := hrel
    have hbw' : Below w.heap.size w wr := by have := hG.out; subst this; exact hbw
    rcases Nat.lt_or_ge k a.length with hlt | hge
    · obtain ⟨ba, oa, rfl, _, _, _⟩ := hA (zbt (j := k) hlt)
      have HR := hrel; clear hrel
      obtain ⟨wo, rfl⟩ : ∃ wo : World, wo = wr := ⟨_, rfl⟩
      go_wp2
      go_loopw [7, 8] (fun cr i wi => ∃ j : Nat, ∃ M : List Nat, ∃ cy : Int, j ≤ b.length ∧ i = .int .i64 (j : Int) ∧ cr = .int .u64 cy ∧ 0 ≤ cy ∧ cy ≤ 999999999 ∧ Row wi G 103 (cel .u32 M) ∧ Below G w wi ∧ Hid (wi.heap.size = G + 1) ∧
          Hid (M.length = a.length + b.length ∧ Lo M ∧ (∀ j, k + b.length ≤ j → M.getD j 0 = 0) ∧ (val M : Int) + cy * pw (k + j) = val L + ((a.getD k 0 : Nat) : Int) * pw k * val (b.take j))) (fun _ i _ => b.length - (intOf i).toNat)
      case atStart => exact ⟨0, L, 0, Nat.zero_le _, rfl, rfl, by omega, by omega, hr, hbw, hsz, HR.out.1, HR.out.2.1, HR.out.2.2.1, by simp [val]⟩
      case round =>
        clear hr hbw hbw' hsz
        obtain ⟨j, M, cy, hj, rfl, rfl, hcy0, hcy1, hr, hbw, hsz, hrel⟩ := hrel
        have hbw' : Below w.heap.size w wr := by have := hG.out; subst this; exact hbw
        have hkM : Hid (k + b.length < M.length) := by rw [hrel.out.1]; unfold Hid; omega
        rcases Nat.lt_or_ge j b.length with hjl | hjg
        · obtain ⟨x, hx, hx0, hx1, hxc⟩ := zbu (j := k) Hal.out.1 (hA.below hbw' hi1).at_ hlt
          obtain ⟨bb, ob, rfl, _, _, hcb⟩ := (hB.below hbw' hi2) (zbt (j := j) hjl)
          obtain ⟨y, hy, hy0, hy1, hyc⟩ := zbu (j := j) Hbl.out.1 hcb hjl
          clear hcb
          obtain ⟨z, hz, hz0, hz1, hzc⟩ := hr.lo hrel.out.2.1 (i := k + j) (by have := hkM.out; omega)
          have hzf := hr.frozen (k + j)
          have hxy := zci hx0 hx1 hy0 hy1
          have hxy0 := hxy.1
          have hxy1 := hxy.2
          clear hxy
          go_wp2
          go_quiet (fail)
          go_wp2
          go_roundw
          case rel =>
            refine ⟨j + 1, M.set (k + j) ((cy + z + x * y) % 1000000000).toNat, (cy + z + x * y) / 1000000000, by omega, by go_num, rfl, by omega, by omega, (hr.drewN _).setNum (k + j) _ _ (by omega), (below_drewN hbw _).setCell (Nat.le_refl _) _,
              by have := hsz.out; simpa [Hid, World.setCell] using this, by rw [List.length_set]; exact hrel.out.1, zcg hrel.out.2.1 (by omega), fun i hi => by rw [zby (by omega)]; exact hrel.out.2.2.1 i hi, ?_⟩
            rw [← hx.out]
            exact mul_step (by have := hkM.out; omega) hy.out hz.out (t := cy + z + x * y) (c := cy) (c' := (cy + z + x * y) / 1000000000) (r := (cy + z + x * y) % 1000000000) (by omega) (by omega) (by omega) (by rw [hx.out]; exact hrel.out.2.2.2)
          case measure => simp [intOf]; omega
        · obtain rfl : j = b.length := by omega
          obtain ⟨z, hz, hz0, hzc⟩ := hr.num (i := k + b.length) hkM.out
          have hzf := hr.frozen (k + b.length)
          go_wp2
          go_roundw
          case rel =>
            exact ⟨k + 1, M.set (k + b.length) cy.toNat, by omega, by go_num, hr.setNum (k + b.length) _ _ (by omega), hbw.setCell (Nat.le_refl _) _,
              by have := hsz.out; simpa [Hid, World.setCell] using this, by rw [List.length_set]; exact hrel.out.1, zcg hrel.out.2.1 (by omega), fun i hi => by rw [zby (by omega)]; exact hrel.out.2.2.1 i (by omega),
              mul_row rfl hkM.out rfl (hrel.out.2.2.1 _ (Nat.le_refl _)) hcy0 HR.out.2.2.2 hrel.out.2.2.2⟩
          case measure => simp [intOf]; omega
    · obtain rfl : k = a.length := by omega
      have H1 : Hid (Row wr G 103 (cel .u32 L) ∧ val L = x * y ∧ L.length = a.length + b.length ∧ Lo L) := ⟨hr, by have := hrel.out.2.2.2; rw [zbb (Nat.le_refl _), Hal.out.2, Hbl.out.2] at this; exact this, hrel.out.1, hrel.out.2.1⟩
      clear hr hrel
      go_wp2_with fail
      rw [← H1.out.2.2.1]
      refine (rtrim_list _ _ L wr G (G + 1) H1.out.2.2.2 (Nat.le_refl _) (by have := H1.out.2.2.1; unfold maxLen; omega) H1.out.1.sv).mono ?_
      rintro e w2 ⟨⟨v, rfl, hv⟩, rfl⟩
      go_wp2_with fail
      go_ret
      refine ⟨⟨_, rfl, ?_⟩, hbw'⟩
      rw [← H1.out.2.1]
      exact hv.wide (by have := hG.out; omega) (by have := hsz.out; omega)
def WrN (w : World) (base : Nat) (v : Value) (n : Nat) : Prop := (v = .slice none 0 0 ∧ n = 0) ∨ ∃ g cap cur, v = .slice (some ⟨g, 0, none⟩) (lim n).length cap ∧ base ≤ g ∧ Row w g 103 cur ∧ cur.take (lim n).length = cel .u32 (lim n) ∧ (lim n).length ≤ cap ∧ cap ≤ maxLen
theorem take_sub {α : Type} {a b : List α} {n : Nat} (h : a.take n = b) : ∀ (j : Nat) (x : α), b[j]? = some x → a[j]? = some x := by
  intro j x hx
  rw [← h, List.getElem?_take] at hx
  split at hx
  · exact hx
  · cases hx
theorem WrN.isN {w : World} {base : Nat} {v : Value} {n : Nat} (h : WrN w base v n) : IsN w base w.heap.size v n := by
  rcases h with ⟨rfl, rfl⟩ | ⟨g, cap, cur, rfl, hb, hr, ht, h1, h2⟩
  · exact IsN.zero
  · exact ⟨_, cap, rfl, h1, h2, fun _ => ⟨g, 0, rfl, hb, hr.lt, fun j u hu => by rw [Nat.zero_add, hr.cell]; exact take_sub ht j u hu⟩⟩
theorem WrN.setFar {w : World} {base : Nat} {v : Value} {n : Nat} (h : WrN w base v n) {p : Addr} (hp : p.block < base) (u : Value) : WrN (w.setCell p u) base v n := by
  rcases h with h | ⟨g, cap, cur, rfl, hb, hr, ht, h1, h2⟩
  · exact .inl h
  · exact .inr ⟨g, cap, cur, rfl, hb, hr.far (by omega) u, ht, h1, h2⟩
theorem WrN.mono {w : World} {base base' : Nat} {v : Value} {n : Nat} (h : WrN w base v n) (hb : base' ≤ base) : WrN w base' v n := by
  rcases h with h | ⟨g, cap, cur, rfl, hb', hr, ht, h1, h2⟩
  · exact .inl h
  · exact .inr ⟨g, cap, cur, rfl, by omega, hr, ht, h1, h2⟩
theorem Own.wr {w : World} {base : Nat} {A : Option Addr} {len c m : Nat} {l : List Nat} (h : Own w base 103 (.slice A len c) (cel .u32 l)) (hm : m ≤ l.length) (ht : lim (val l) = l.take m) : WrN w base (.slice A m c) (val l) := by
  have hl : (lim (val l)).length = m := by rw [ht, List.length_take, Nat.min_eq_left hm]
  rcases h.2 with ⟨hv, hn⟩ | ⟨g, cap, cur, hv, hb, hh, hn, hcm, hcs, htake⟩
  · have hx : l = [] := cel_nil_iff.1 (List.eq_nil_of_length_eq_zero hn)
    subst hx
    simp only [Value.slice.injEq] at hv
    obtain ⟨rfl, _, rfl⟩ := hv
    simp at hm
    subst hm
    exact .inl ⟨rfl, rfl⟩
  · simp only [Value.slice.injEq] at hv
    obtain ⟨rfl, _, rfl⟩ := hv
    rw [zbv] at hn htake
    refine .inr ⟨g, c, cur.toList, by rw [hl], hb, ?_, ?_, by rw [hl]; omega, hcm⟩
    · unfold Row
      simpa using hh
    · rw [hl, ht, cel_take, ← htake, Nat.mul_one, List.take_take, Nat.min_eq_left hm]
set_option maxRecDepth 100000 in
set_option maxHeartbeats 1000000 in
theorem rminus_w {w : World} {va vb : Value} {x y : Nat} {lo hi lo' hi' : Nat} (ha : IsN w lo hi va x) (hb : IsN w lo' hi' vb y) (hi1 : hi ≤ w.heap.size) (hi2 : hi' ≤ w.heap.size) (hle : y ≤ x) (hx : (lim x).length ≤ 4294967296) :
    Calls Tryz.prog 99 #[va, vb] w fun e w' => (∃ v, e = .returned v ∧ WrN w' w.heap.size v (x - y)) ∧ Below w.heap.size w w' := by
  have hab := zaz hle
  obtain ⟨A, c, rfl, _, _, hA⟩ := ha
  obtain ⟨B, d, rfl, _, _, hB⟩ := hb
  generalize hla : lim x = a at *
  generalize hlb : lim y = b at *
  have Hal : Hid (Lo a ∧ val a = x) := by rw [Hid, ← hla]; exact ⟨zbp x, zbl x⟩
  have Hbl : Hid (Lo b ∧ val b = y) := by rw [Hid, ← hlb]; exact ⟨zbp y, zbl y⟩
  have Hle := Lib.hid hle
  clear hla hlb hle
  generalize hBs : w.heap.size = bs at *
  have HB := Lib.hid hBs; clear hBs
  go_enter Tryz.func99, Tryz.ntmps99
  go_wp2
  go_loopw [5, 6, 7] (fun v bw i wr => ∃ (k : Nat) (L : List Nat) (q : Int), k ≤ a.length ∧ i = .int .i64 (k : Int) ∧ bw = .int .i64 q ∧ 0 ≤ q ∧ q ≤ 1 ∧ Own wr bs 103 v (cel .u32 L) ∧ Below bs w wr ∧
      Hid (L.length = k ∧ Lo L ∧ (val L : Int) = val (a.take k) - val (b.take k) + q * pw k)) (fun _ _ i _ => a.length - (intOf i).toNat)
  case atStart => exact ⟨0, [], 0, by omega, rfl, rfl, by omega, by omega, Own.nil _ _ _, Below.refl _ _, rfl, lo_nil, by simp [val]⟩
  case round =>
    obtain ⟨k, L, q, hk, rfl, rfl, hq0, hq1, hown, hbw, hrel⟩ := hrel
    have hBw : bs ≤ wr.heap.size := by have := hbw.size; have := HB.out; omega
    have hkc : k ≤ 4294967297 := by omega
    have hlen : Hid ((cel .u32 L).length ≤ 4294967297) := by rw [Hid, zbv, hrel.out.1]; omega
    rcases Nat.lt_or_ge k a.length with hka | hka
    · obtain ⟨ba, oa, rfl, _, _, hca⟩ := (hA.below hbw hi1) (zbt (j := k) hka)
      obtain ⟨x1, hx1, hx10, hx11, hx1c⟩ := zbu (j := k) Hal.out.1 hca hka
      clear hca
      rcases Nat.lt_or_ge k b.length with hkb | hkb
      · obtain ⟨bb, ob, rfl, _, _, hcb⟩ := (hB.below hbw hi2) (zbt (j := k) hkb)
        obtain ⟨y1, hy1, hy10, hy11, hy1c⟩ := zbu (j := k) Hbl.out.1 hcb hkb
        clear hcb
        rcases Int.lt_or_le (x1 - q - y1) 0 with hneg | hpos
        · go_wp2_with (at_builtin; refine zct elN rfl _ _ rfl rfl hown rfl rfl (by have := hlen.out; omega) hBw ?_; intro v1 w1 hown1 hbw1 hz1)
          go_roundw
          case rel =>
            rw [zcc .u32 L (x1 - q - y1 + 1000000000).toNat _ (by omega)] at hown1
            exact ⟨k + 1, _, 1, by omega, by go_num, rfl, by omega, by omega, hown1, hbw.trans hbw1, by rw [List.length_append]; simp [hrel.out.1], zdb hrel.out.2.1 (by omega), minus_step hrel.out.1 hx1.out hy1.out (by omega) (by omega) hrel.out.2.2⟩
          case measure => simp [intOf]; omega
        · go_wp2_with (at_builtin; refine zct elN rfl _ _ rfl rfl hown rfl rfl (by have := hlen.out; omega) hBw ?_; intro v1 w1 hown1 hbw1 hz1)
          go_roundw
          case rel =>
            rw [zcc .u32 L (x1 - q - y1).toNat _ (by omega)] at hown1
            exact ⟨k + 1, _, 0, by omega, by go_num, rfl, by omega, by omega, hown1, hbw.trans hbw1, by rw [List.length_append]; simp [hrel.out.1], zdb hrel.out.2.1 (by omega), minus_step hrel.out.1 hx1.out hy1.out (by omega) (by omega) hrel.out.2.2⟩
          case measure => simp [intOf]; omega
      · rcases Int.lt_or_le (x1 - q) 0 with hneg | hpos
        · go_wp2_with (at_builtin; refine zct elN rfl _ _ rfl rfl hown rfl rfl (by have := hlen.out; omega) hBw ?_; intro v1 w1 hown1 hbw1 hz1)
          go_roundw
          case rel =>
            rw [zcc .u32 L (x1 - q + 1000000000).toNat _ (by omega)] at hown1
            exact ⟨k + 1, _, 1, by omega, by go_num, rfl, by omega, by omega, hown1, hbw.trans hbw1, by rw [List.length_append]; simp [hrel.out.1], zdb hrel.out.2.1 (by omega), minus_step (y := 0) hrel.out.1 hx1.out (by rw [zck hkb]; rfl) (by omega) (by omega) hrel.out.2.2⟩
          case measure => simp [intOf]; omega
        · go_wp2_with (at_builtin; refine zct elN rfl _ _ rfl rfl hown rfl rfl (by have := hlen.out; omega) hBw ?_; intro v1 w1 hown1 hbw1 hz1)
          go_roundw
          case rel =>
            rw [zcc .u32 L (x1 - q).toNat _ (by omega)] at hown1
            exact ⟨k + 1, _, 0, by omega, by go_num, rfl, by omega, by omega, hown1, hbw.trans hbw1, by rw [List.length_append]; simp [hrel.out.1], zdb hrel.out.2.1 (by omega), minus_step (y := 0) hrel.out.1 hx1.out (by rw [zck hkb]; rfl) (by omega) (by omega) hrel.out.2.2⟩
          case measure => simp [intOf]; omega
    · obtain rfl : k = a.length := by omega
      have hv : Hid (val L = x - y) := by
        have h := sub_end (L := L) (b := b) (bw := q) hrel.out.1 rfl hab hrel.out.2.1 (by omega) (by rw [Hal.out.2, Hbl.out.2]; exact Hle.out) (by rw [zbb (l := L) (Nat.le_of_eq hrel.out.1)]; exact hrel.out.2.2)
        rw [Hal.out.2, Hbl.out.2] at h
        exact h
      have hlo := Lib.hid hrel.out.2.1
      obtain ⟨A', c', hv', h1, h2, h3⟩ := hown.sl
      subst hv'
      rw [zbv] at h1
      have Hown := Lib.hid hown
      have H1 := Lib.hid h1
      have H2 := Lib.hid h2
      have H3 := Lib.hid h3
      clear hown hrel h1 h2 h3
      rw [zbv] at Hown ⊢
      go_wp2_with fail
      refine (rtrim_same A' c' L wr bs wr.heap.size hlo.out H1.out H2.out H3.out).mono ?_
      rintro e w2 ⟨⟨m, rfl, hm, ht⟩, rfl⟩
      have Ht := Lib.hid ht
      clear ht
      go_wp2_with fail
      go_ret
      refine ⟨⟨_, rfl, ?_⟩, hbw⟩
      rw [← hv.out]
      exact Own.wr Hown.out hm Ht.out
theorem rminus_n {w : World} {va vb : Value} {x y : Nat} {lo hi lo' hi' : Nat} (ha : IsN w lo hi va x) (hb : IsN w lo' hi' vb y) (hi1 : hi ≤ w.heap.size) (hi2 : hi' ≤ w.heap.size) (hle : y ≤ x) (hx : (lim x).length ≤ 4294967296) :
    Calls Tryz.prog 99 #[va, vb] w fun e w' => (∃ v, e = .returned v ∧ IsN w' w.heap.size w'.heap.size v (x - y)) ∧ Below w.heap.size w w' :=
  (rminus_w ha hb hi1 hi2 hle hx).mono fun e w' ⟨⟨v, he, hv⟩, hw⟩ => ⟨⟨v, he, hv.isN⟩, hw⟩
set_option maxHeartbeats 400000 in
theorem rorder_list (A B : Option Addr) (c d : Nat) (a b : List Nat) (w : World) (lo hi lo' hi' : Nat) (ha : Lo a) (hb : Lo b) (hal : a.length ≤ maxLen) (hbl : b.length ≤ maxLen) (hA : SV w lo hi A (cel .u32 a)) (hB : SV w lo' hi' B (cel .u32 b))
    (r : Int) (hr1 : a.length < b.length → r = -1) (hr2 : b.length < a.length → r = 1) (hr3 : a.length = b.length → r = sgn (val a) (val b)) :
    Calls Tryz.prog 98 #[.slice A a.length c, .slice B b.length d] w fun e w' => e = .returned (.int .i64 r) ∧ Dr w w' := by
  unfold maxLen at hal hbl
  have Ha := Lib.hid ha; clear ha
  have Hb := Lib.hid hb; clear hb
  have Hr3 := Lib.hid hr3; clear hr3
  rcases Nat.lt_trichotomy a.length b.length with h | h | h
  · have Hr := Lib.hid (hr1 h); clear hr1 hr2
    go_enter Tryz.func98, Tryz.ntmps98
    go_wp2
    go_ret
    exact ⟨zar Hr.out.symm, Dr.refl w⟩
  · have Hr := Lib.hid (Hr3.out h); clear hr1 hr2 Hr3
    have hne : (((a.length : Int)) != (b.length : Int)) = false := by simp [h]
    have H := Lib.hid h
    have h1 : a.length ≤ b.length := by omega
    have h2 : b.length ≤ a.length := by omega
    clear h
    go_enter Tryz.func98, Tryz.ntmps98
    go_wp2
    go_loopw [5] (fun i wr => ∃ k : Nat, k ≤ a.length ∧ i = .int .i64 ((k : Int) - 1) ∧ Dr w wr ∧ Hid (a.drop k = b.drop k)) (fun i _ => (intOf i + 1).toNat)
    case atStart => exact ⟨a.length, Nat.le_refl _, rfl, Dr.refl w, by rw [List.drop_length, H.out, List.drop_length]; rfl⟩
    case round =>
      obtain ⟨k, hk, rfl, ⟨n, rfl⟩, hd⟩ := hrel
      rcases k with _ | k
      · go_wp2
        go_ret
        refine ⟨zar ?_, (Dr.refl w).drewN n⟩
        have := hd.out
        simp only [List.drop_zero] at this
        rw [Hr.out, sgn_eq (by rw [this])]
      · obtain ⟨ba, oa, rfl, _, _, hca⟩ := hA (zbt hk)
        obtain ⟨bb, ob, rfl, _, _, hcb⟩ := hB (zbt (Nat.le_trans hk h1))
        obtain ⟨x, hx, hx0, hxc⟩ := zdx (j := k) hca (by omega)
        obtain ⟨y, hy, hy0, hyc⟩ := zdx (j := k) hcb (by omega)
        clear hca hcb
        rw [show (((k + 1 : Nat) : Int) - 1) = (k : Int) from by omega]
        go_wp2
        go_quiet (fail)
        go_wp2
        · go_ret
          refine ⟨zar ?_, ((Dr.refl w).drewN n).drewN _⟩
          have hlt : x < y := by assumption
          rw [Hr.out, sgn_lt (val_lt_at Ha.out Hb.out H.out (by omega) hd.out (by have := hx.out; have := hy.out; omega))]
        · go_quiet (fail)
          go_wp2
          · go_ret
            refine ⟨zar ?_, (((Dr.refl w).drewN n).drewN _).drewN _⟩
            have hlt : y < x := by assumption
            rw [Hr.out, sgn_gt (val_lt_at Hb.out Ha.out H.out.symm (by omega) hd.out.symm (by have := hx.out; have := hy.out; omega))]
          · go_roundw
            case rel =>
              have g1 : y ≤ x := by assumption
              have g2 : x ≤ y := by assumption
              exact ⟨k, by omega, rfl, ⟨_, rfl⟩, Lib.hid (drop_step H.out (by omega) hd.out (by have := hx.out; have := hy.out; omega))⟩
            case measure => simp [intOf]
  · have Hr := Lib.hid (hr2 h); clear hr1 hr2
    go_enter Tryz.func98, Tryz.ntmps98
    go_wp2
    go_ret
    exact ⟨zar Hr.out.symm, Dr.refl w⟩
theorem rorder_n {w : World} {va vb : Value} {x y lo hi lo' hi' : Nat} (ha : IsN w lo hi va x) (hb : IsN w lo' hi' vb y) :
    Calls Tryz.prog 98 #[va, vb] w fun e w' => e = .returned (.int .i64 (sgn x y)) ∧ Dr w w' := by
  have h1 := ha.length_le
  have h2 := hb.length_le
  obtain ⟨A, c, rfl, _, _, hA⟩ := ha
  obtain ⟨B, d, rfl, _, _, hB⟩ := hb
  refine rorder_list A B c d (lim x) (lim y) w _ _ _ _ (zbp x) (zbp y) h1 h2 hA hB _ ?_ ?_ ?_
  · intro h; exact sgn_lt (zew h)
  · intro h; exact sgn_gt (zew h)
  · intro _; rw [zbl, zbl]
end Go.Proofs.YtblpaocignlpkaaGreatDoor
namespace Go.Proofs.YtblpaocignlpkaaGreatDoor
open Go.RowKit
section
variable {P : Program} {w : World} {ops : Array Oper} {o : Oper} {a : Act} {K : Act → World → Prop} {Q : Exit → Act → World → Prop} {t e : TypeId} {z : Value} {bytes base : Nat} {E' : Prop}
theorem step_make {k : IntKind} (E : ElT P t e (.int k 0) bytes) (hg : o.guard = none) (l c : Operand) (hop : o.op = Op.makeSlice t l c) {kl kc : IntKind} {L C : Int} (n : Nat)
    (hl : a.eval l = .int kl L) (hc : a.eval c = .int kc C) (hL : L = (n : Int)) (hC : C = (n : Int)) (hb : n * (bytes + 1) ≤ 140737488355328)
    (h : ∀ g w', Hid (g = w.heap.size) → Row w' g e (cel k (List.replicate n 0)) → Below g w w' → Hid (w'.heap.size = g + 1) → K (a.put o.dst (.slice (some ⟨g, 0, none⟩) n n)) w') :
    if Region.wanted o (yielded ops a.tmps) = true then Oper.wp P o a w K Q else E' := by
  obtain ⟨i, h2, h3, h4, hby⟩ := E.info
  rw [Nat.mul_add, Nat.mul_one] at hb
  have b2 : i.bytes * n ≤ 281474976710656 := by rw [hby, Nat.mul_comm]; omega
  have hw : Region.wanted o (yielded ops a.tmps) = true := by simp [Region.wanted, hg]
  rw [if_pos hw]
  have hb' : (i.bytes : Int) * (n : Int) ≤ 281474976710656 := by
    have h : ((i.bytes * n : Nat) : Int) ≤ 281474976710656 := by omega
    rwa [Int.natCast_mul] at h
  have hr := run_make (P := P) w t e i (.int k 0) E.und h2 h3 kl kc n n (by omega) (Int.le_refl _) hb' (by omega)
  simp only [Int.toNat_natCast] at hr
  subst hL
  subst hC
  unfold Oper.wp
  simp [execOp, hop, hl, hc, hr, Result.andThen]
  refine h _ _ rfl ?_ ((Below.refl _ _).alloc (Nat.le_refl _) _) (by simp [Hid])
  unfold Row
  have hm : (cel k (List.replicate n 0)).toArray = madeCells (Value.int k 0).cells (n * i.size) := by
    apply Array.ext'
    rw [h4, Nat.mul_one]
    show _ = (madeCells #[.int k 0] n).toList
    rw [toList_madeCells_one]
    simp [cel]
  rw [hm]
  exact heap_alloc_new w _
theorem make_rule {k : IntKind} (P : Program) {t e : TypeId} {bytes : Nat} (E : ElT P t e (.int k 0) bytes) (L : Int) (n : Nat) (hL : L = (n : Int)) (hb : n * (bytes + 1) ≤ 140737488355328) :
    ∃ zs : Array Value, zs = (cel k (List.replicate n 0)).toArray ∧ ∀ w : World, (Instr.makeSlice t (.int .i64 L) (.int .i64 L)).run P w = .ok (.slice (some ⟨w.heap.size, 0, none⟩) n n) (w.alloc (.cells zs e)) := by
  obtain ⟨i, h2, h3, h4, hby⟩ := E.info
  rw [Nat.mul_add, Nat.mul_one] at hb
  have b2 : i.bytes * n ≤ 281474976710656 := by rw [hby, Nat.mul_comm]; omega
  have hb' : (i.bytes : Int) * (n : Int) ≤ 281474976710656 := by
    have h : ((i.bytes * n : Nat) : Int) ≤ 281474976710656 := by omega
    rwa [Int.natCast_mul] at h
  refine ⟨_, rfl, fun w => ?_⟩
  have hr := run_make (P := P) w t e i (.int k 0) E.und h2 h3 .i64 .i64 n n (by omega) (Int.le_refl _) hb' (by omega)
  simp only [Int.toNat_natCast] at hr
  have hm : (cel k (List.replicate n 0)).toArray = madeCells (Value.int k 0).cells (n * i.size) := by
    apply Array.ext'
    rw [h4, Nat.mul_one]
    show _ = (madeCells #[.int k 0] n).toList
    rw [toList_madeCells_one]
    simp [cel]
  rw [hL, hm]
  exact hr
theorem step_app (E : ElT P t e z bytes) (hgd : o.guard = none) (s x : Operand) (ho : o.op = .call { callee := .builtin .append, args := #[s, x], argTypes := #[t, t] })
    {v : Value} {xs : List Value} (hs : a.eval s = v) (hown : Own w base e v xs) {lo hi : Nat} {A : Option Addr} {m c : Nat} {news : List Value} (hx : a.eval x = .slice A m c) (hl : news.length = m) (hr : SV w lo hi A news)
    (h1 : ∀ u ∈ news, u.oneCell' = true) (hb : (xs.length + m) * (bytes + 1) ≤ 140737488355328) (hbase : base ≤ w.heap.size)
    (h : ∀ v' w', Own w' base e v' (xs ++ news) → Below base w w' → w.heap.size ≤ w'.heap.size → K (a.put o.dst v') w') :
    if Region.wanted o (yielded ops a.tmps) = true then Oper.wp P o a w K Q else E' := by
  obtain ⟨i, hi, hz, hsz, hby⟩ := E.info
  rw [Nat.mul_add, Nat.mul_one] at hb
  have hw : Region.wanted o (yielded ops a.tmps) = true := by simp [Region.wanted, hgd]
  rw [if_pos hw]
  refine wp_app w s x t ho base e i z 1 bytes E.und hi hz hsz hby E.zc (by omega) v xs.length xs hs hown lo _ A m c news hx (by omega) hr h1 (by unfold maxLen; omega) (by omega) hbase fun v' w' h2 h3 _ =>
    h v' w' (by unfold Own; rw [List.length_append, hl]; exact h2) ((Below.refl _ _).grown h3 hbase (fun k hk => (World.ownsRow.lt hown k hk).1)) h3.size
end
end Go.Proofs.YtblpaocignlpkaaGreatDoor
namespace Go.Proofs.YtblpaocignlpkaaGreatDoor
theorem drop_lt {l : List Nat} (h : Lo l) {k n : Nat} (hk : l.length ≤ k + n) : val (l.drop k) < pw n := by
  have h1 := zec (lo_drop h k)
  have h2 : pw (l.drop k).length ≤ pw n := pw_mono (by rw [List.length_drop]; omega)
  omega
theorem val_drop_div (R k : Nat) : val ((lim R).drop k) = R / pw k := by
  rcases Nat.lt_or_ge (lim R).length k with h | h
  · rw [List.drop_eq_nil_of_le (by omega), zfe, Nat.div_eq_of_lt (lim_len_le.1 (by omega))]
  · have h1 := zdl (lim R) k h
    rw [zbl] at h1
    have h2 := zec (zdj (zbp R) k)
    rw [List.length_take, Nat.min_eq_left h] at h2
    conv => rhs; rw [h1]
    rw [Nat.add_mul_div_left _ _ (zff k), Nat.div_eq_of_lt h2, Nat.zero_add]
theorem top_le {B n : Nat} : (lim B).getD n 0 * pw n ≤ B := by
  rw [zfg]
  have h1 := Nat.div_mul_le_self B (pw n)
  have h2 := Nat.mul_le_mul_right (pw n) (Nat.mod_le (B / pw n) 1000000000)
  omega
theorem top_ge {B n : Nat} (hn : (lim B).length = n + 1) : 1 ≤ (lim B).getD n 0 := by
  rw [zfg]
  have h1 : pw n ≤ B := lim_len_lt.1 (by omega)
  have h2 : B < pw (n + 1) := lim_len_le.1 (by omega)
  rw [zce] at h2
  have h3 : B / pw n < 1000000000 := by rw [Nat.div_lt_iff_lt_mul (zff n)]; exact h2
  rw [Nat.mod_eq_of_lt h3]
  exact Nat.div_pos h1 (zff n)
theorem guess_ge {R B n : Nat} (hn : (lim B).length = n + 1) (hR : R < B * 1000000000) {d : Nat} (hd : d = 999999999 ∨ d = R / pw n / (lim B).getD n 0) : R < (d + 1) * B := by
  rcases hd with rfl | rfl
  · rw [Nat.mul_comm]; exact hR
  · have ht := top_ge hn
    have h1 := Nat.lt_div_mul_add (a := R / pw n) (b := (lim B).getD n 0) (by omega)
    have h2 := Nat.lt_div_mul_add (a := R) (b := pw n) (zff n)
    generalize R / pw n / (lim B).getD n 0 = d at *
    generalize hl : R / pw n = l at *
    have h3 : l + 1 ≤ (d + 1) * (lim B).getD n 0 := by rw [Nat.add_mul, Nat.one_mul]; omega
    have h4 := Nat.mul_le_mul_right (pw n) h3
    have h5 := Nat.mul_le_mul_left (d + 1) (top_le (B := B) (n := n))
    rw [Nat.add_mul, Nat.one_mul] at h4
    rw [Nat.mul_assoc] at h4
    omega
theorem lead_lt {R B n : Nat} (hn : (lim B).length = n + 1) (hR : R < B * 1000000000) : (lim R).length ≤ n + 2 ∧ R / pw n < 1000000000000000000 := by
  have h1 : B < pw (n + 1) := lim_len_le.1 (by omega)
  have h2 : R < pw (n + 2) := by
    rw [show n + 2 = (n + 1) + 1 from rfl, zce, Nat.mul_comm]
    exact Nat.lt_of_lt_of_le hR (Nat.mul_le_mul_right _ (Nat.le_of_lt h1))
  refine ⟨lim_len_le.2 h2, ?_⟩
  rw [Nat.div_lt_iff_lt_mul (zff n)]
  rw [show n + 2 = (n + 1) + 1 from rfl, zce, zce] at h2
  omega
theorem lead_at {R n j q : Nat} (h : q = val ((lim R).drop j)) (hj : j = n ∨ (j = (lim R).length ∧ j ≤ n)) : q = R / pw n := by
  rcases hj with rfl | ⟨rfl, h1⟩
  · rw [h, val_drop_div]
  · rw [h, List.drop_length, zfe, Nat.div_eq_of_lt (lim_len_le.1 h1)]
theorem cons_val {a R : Nat} : val (a :: lim R) = a + 1000000000 * R := by rw [zfm, zbl]
theorem cons_lt {a R B : Nat} (ha : a < 1000000000) (hR : R < B) : a + 1000000000 * R < B * 1000000000 := by omega
theorem digit_down {R B d : Nat} (h : R < B * d) : 1 ≤ d ∧ R < (d - 1 + 1) * B := by
  rcases d with _ | d
  · simp at h
  · exact ⟨by omega, by rw [Nat.add_sub_cancel, Nat.mul_comm]; exact h⟩
theorem digit_exact {R B d : Nat} (h1 : d * B ≤ R) (h2 : R < (d + 1) * B) : R - d * B < B ∧ R - d * B = R % B ∧ d = R / B := by
  have hB : 0 < B := by
    rcases Nat.eq_zero_or_pos B with h | h
    · subst h; simp at h2
    · exact h
  have h3 : R / B = d := Nat.div_eq_of_lt_le h1 h2
  rw [Nat.add_mul, Nat.one_mul] at h2
  exact ⟨by omega, by rw [Nat.mod_eq_sub_mul_div, h3, Nat.mul_comm], h3.symm⟩
theorem over_step {A Q : List Nat} {k B R d R' : Nat} (hk : k < A.length) (hq : k < Q.length) (h : val (A.drop (k + 1)) = B * val (Q.drop (k + 1)) + R) (hR : A.getD k 0 + 1000000000 * R = R') (h1 : d * B ≤ R') :
    val (A.drop k) = B * val ((Q.set k d).drop k) + (R' - d * B) := by
  rw [zfh hk, h, drop_set hq]
  have e : B * (d + 1000000000 * val (Q.drop (k + 1))) = d * B + 1000000000 * (B * val (Q.drop (k + 1))) := by grind
  rw [e, Nat.mul_add]
  omega
theorem drop_isLim (X k : Nat) : lim (val ((lim X).drop k)) = (lim X).drop k := by
  apply zex (lo_drop (zbp X) k)
  rcases Nat.lt_or_ge k (lim X).length with h | h
  · right
    rw [List.length_drop, val_drop_div, Nat.le_div_iff_mul_le (zff k), ← pw_add]
    exact lim_len_lt.1 (by omega)
  · exact .inl (List.drop_eq_nil_of_le h)
end Go.Proofs.YtblpaocignlpkaaGreatDoor
