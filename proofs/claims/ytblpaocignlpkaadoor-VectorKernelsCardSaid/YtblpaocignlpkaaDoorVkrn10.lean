/-
  A Draws that hands out the numbers of a list: in memory, and the zav of its Next.
-/
import Derived.Test.YtblpaocignlpkaaDoorVkrn09
import Derived.OrdersHeld
import Derived.Below
import Derived.StillTail
namespace Go.Proofs.YtblpaocignlpkaaDoor
open Go.RowKit
set_option linter.unusedVariables false
def IsD (w : World) (g : Nat) (l : List Int) : Prop :=
  ∃ A c k, Row w g 25 [.slice A l.length c, .int .i64 ((k : Nat) : Int)] ∧ IsIL w (fun b => b < g) (.slice A l.length c) l ∧ k ≤ l.length
theorem IsD.lt {w : World} {g : Nat} {l : List Int} (h : IsD w g l) : g < w.heap.size := by
  obtain ⟨A, c, k, h1, _⟩ := h
  exact h1.lt
theorem IsD.next {w w' : World} {g B : Nat} {l : List Int} (h : IsD w g l) (hb : Below B w w') (hg : g < B) : IsD w' g l := by
  obtain ⟨A, c, k, h1, h2, h3⟩ := h
  exact ⟨A, c, k, h1.below hb hg, IsIL.stb.to h2 (zdo hb fun b h => Nat.lt_trans h hg), h3⟩
theorem IsD.grown {w w' : World} {g r : Nat} {l : List Int} (h : IsD w g l) (hb : w.grownBy w' (some r)) (hr : g < r) : IsD w' g l := by
  have hl := h.lt
  obtain ⟨A, c, k, h1, h2, h3⟩ := h
  exact ⟨A, c, k, h1.grown hb (fun e => by cases e; omega), IsIL.stb.to h2 (same_grown hb fun b hb' => ⟨by omega, by omega⟩), h3⟩
theorem IsD.far {w : World} {g : Nat} {l : List Int} (h : IsD w g l) {p : Addr} (hp : g < p.block) (u : Value) : IsD (w.setCell p u) g l := by
  obtain ⟨A, c, k, h1, h2, h3⟩ := h
  refine ⟨A, c, k, h1.far (by omega) u, IsIL.stb.to h2 fun b hb => ⟨hb, fun o => ?_⟩, h3⟩
  rw [World.cell?_setCell_other _ _ _ _ (fun e => by rw [e] at hp; simp at hp; omega)]
theorem Only.grown {g : Nat} {a b : World} (h : Only g a b) : a.grownBy b (some g) := ⟨h.os, h.tape, h.output, Nat.le_of_eq h.size.symm, fun k hk hr => h.block k (fun e => hr (by rw [e]))⟩
def Drew (n : Nat) (e : Ending) : Prop := ∃ x : Nat, x < n ∧ e = .returned (.int .i64 (x : Int))
set_option maxRecDepth 100000 in
set_option maxHeartbeats 1000000 in
theorem next_l {w : World} {g : Nat} {l : List Int} (h : IsD w g l) {n : Nat} (hn : 1 ≤ n) (hn1 : n ≤ 1000000) :
    Calls Tryd.prog 50 #[.pointer (some ⟨g, 0, none⟩), .int .i64 (n : Int)] w fun e w' => Drew n e ∧ IsD w' g l ∧ Only g w w' := by
  obtain ⟨A, c, k, hr, hl, hk⟩ := id h
  have HR := Lib.hid hr
  have HL := Lib.hid hl
  have HD := Lib.hid h
  have c0 := hr.cell 0
  have c1 := hr.cell 1
  have f1 := hr.frozen 1
  have hlm : l.length ≤ maxLen := by obtain ⟨_, _, hv, h1, h2, _⟩ := hl; omega
  unfold maxLen at hlm
  simp at c0 c1
  have hg := hr.lt
  obtain ⟨m, hm⟩ : ∃ m, m = l.length := ⟨_, rfl⟩
  have Hm := Lib.hid hm
  have t2 : decide ((n : Int) < 1) = false := by simp; omega
  rcases Nat.lt_or_ge k l.length with hlt | hge
  · obtain ⟨x, hx⟩ : ∃ x, l[k]? = some x := ⟨_, List.getElem?_eq_getElem hlt⟩
    obtain ⟨h64, b, off, rfl, hbg, hc⟩ := isIL_get hl hx
    have Hc := Lib.hid hc
    rw [← hm] at c0 hlt hlm hk
    have t1 : decide (m ≤ k) = false := by simp; omega
    have H64 := Lib.hid h64
    clear h hr hl hx hc hm h64
    go_enter Tryd.func50, Tryd.ntmps50
    go_wp2_with fail
    go_quiet (fail)
    obtain ⟨w1, hw1⟩ : ∃ w1, w1 = w.drewN nq := ⟨_, rfl⟩
    have e0 : w1.cell? ⟨g, 0, none⟩ = some (.slice (some ⟨b, off, none⟩) m c) := by rw [hw1]; exact c0
    have e1 : w1.cell? ⟨g, 1, none⟩ = some (.int .i64 (k : Int)) := by rw [hw1]; exact c1
    have e2 : w1.frozen? ⟨g, 1, none⟩ = false := by rw [hw1]; exact f1
    have HC1 : Hid (w1.cell? ⟨b, off + k, none⟩ = some (.int .i64 x)) := by rw [hw1]; exact Hc.out
    have HR1 : Hid (Row w1 g 25 [.slice (some ⟨b, off, none⟩) m c, .int .i64 (k : Int)]) := by rw [hw1, Hm.out]; exact HR.out.drewN nq
    have HO1 : Hid (Only g w w1) := by rw [hw1]; exact (Only.refl g w).drewN nq
    rw [← hw1]
    clear c0 c1 f1 hw1
    go_wp2_with fail
    obtain ⟨w2, hw2⟩ : ∃ w2, w2 = w1.setCell ⟨g, 1, none⟩ (.int .i64 ((k : Int) + 1)) := ⟨_, rfl⟩
    have HR2 : Hid (Row w2 g 25 [.slice (some ⟨b, off, none⟩) m c, .int .i64 ((k : Int) + 1)]) := by rw [hw2]; exact HR1.out.set_ 1 _
    have HO2 : Hid (Only g w w2) := by rw [hw2]; exact HO1.out.setCell 1 _
    have d0 := HR2.out.cell 0
    have d1 := HR2.out.cell 1
    have d2 : w2.cell? ⟨b, off + k, none⟩ = some (.int .i64 x) := by
      rw [hw2, World.cell?_setCell_other _ _ _ _ (fun e => by injection e with h1 h2; omega)]
      exact HC1.out
    simp at d0 d1
    have e3 : IntKind.i64.wrap (k : Int) = (k : Int) := IntWalk.i64_in _ (by omega)
    have e4 : (k : Int).toNat = k := by omega
    have hk0 : (0 : Int) ≤ (k : Int) := by omega
    have hk1 : (k : Int) < (m : Int) := by omega
    rw [← hw2]
    clear hw2 e0 e1 e2
    go_quiet ((go_at_call 9; exact Calls.quiet_of_same ((mod_n _ x (n : Int) H64.out.1 H64.out.2 (by omega) (by omega)).mono fun e w' h => ⟨h.1, h.2.symm⟩)))
    obtain ⟨w3, hw3⟩ : ∃ w3, w3 = w2.drewN nq := ⟨_, rfl⟩
    have HR3 : Hid (Row w3 g 25 [.slice (some ⟨b, off, none⟩) m c, .int .i64 ((k : Int) + 1)]) := by rw [hw3]; exact HR2.out.drewN nq
    have HO3 : Hid (Only g w w3) := by rw [hw3]; exact HO2.out.drewN nq
    have m0 := Int.emod_nonneg x (show (n : Int) ≠ 0 by omega)
    have m1 := Int.emod_lt_of_pos x (show (0 : Int) < n by omega)
    rw [← hw3]
    clear hw3
    go_wp2_with fail
    go_ret
    refine ⟨⟨(x % (n : Int)).toNat, by omega, zbc (by omega)⟩, ⟨some ⟨b, off, none⟩, c, k + 1, by rw [← Hm.out]; exact HR3.out, ?_, by rw [← Hm.out]; omega⟩, HO3.out⟩
    exact IsIL.stb.to HL.out fun b hb => ⟨hb, fun o => World.cell?_of_block (HO3.out.block b (by have : b < g := hb; omega))⟩
  · have hkm : k = m := by omega
    rw [← hm] at c0
    have t1 : decide (m ≤ k) = true := by simp; omega
    clear h hr hl hm
    go_enter Tryd.func50, Tryd.ntmps50
    go_wp2_with fail
    go_quiet (fail)
    go_wp2_with fail
    go_ret
    exact ⟨⟨0, by omega, rfl⟩, HD.out.next (Dr.below ⟨nq, rfl⟩ _) hg, (Only.refl g w).drewN nq⟩
theorem next_i {w : World} {g : Nat} {l : List Int} (h : IsD w g l) (n : Int) (hn : 1 ≤ n) (hn1 : n ≤ 1000000) :
    Calls Tryd.prog 50 #[.pointer (some ⟨g, 0, none⟩), .int .i64 n] w fun e w' => (∃ x : Int, 0 ≤ x ∧ x < n ∧ e = .returned (.int .i64 x)) ∧ IsD w' g l ∧ Only g w w' := by
  have e : n = ((n.toNat : Nat) : Int) := by omega
  rw [e]
  exact (next_l h (n := n.toNat) (by omega) (by omega)).mono fun e w' ⟨⟨x, hx, he⟩, h1, h2⟩ => ⟨⟨x, by omega, by omega, he⟩, h1, h2⟩
def cntU : List Bool → Nat
  | [] => 0
  | b :: l => (if b then 0 else 1) + cntU l
theorem cntU_set : ∀ {l : List Bool} {i : Nat}, l[i]? = some false → cntU (l.set i true) + 1 = cntU l
  | b :: l, 0, h => by simp at h; subst h; simp [cntU]; omega
  | b :: l, i + 1, h => by
    have := cntU_set (l := l) (i := i) (by simpa using h)
    simp only [List.set_cons_succ, cntU]
    omega
theorem cntU_zero : ∀ {l : List Bool} {i : Nat} {b : Bool}, cntU l = 0 → l[i]? = some b → b = true
  | c :: l, 0, b, h, hb => by
    simp at hb
    subst hb
    cases c
    · simp [cntU] at h
    · rfl
  | c :: l, i + 1, b, h, hb => by
    refine cntU_zero (l := l) (i := i) ?_ (by simpa using hb)
    simp only [cntU] at h
    omega
theorem zdd (n : Nat) : cntU (List.replicate n false) = n := by
  induction n with
  | zero => rfl
  | succ n ih => rw [List.replicate_succ, cntU, ih]; simp; omega
def zbm (o : Oper) : List Nat := (o.after.toList.filter (Region.binds .any)).map (·.on)
def slotOf (ops : Array Oper) (t : Nat) : Bool := ops.toList.any fun o => o.dst == some t
def growsB (ops : Array Oper) (n : Nat) : Bool :=
  (List.range ops.size).all fun i => (ops[i]?).any fun o =>
    (o.dst.any fun d => decide (d < n) && (List.range ops.size).all fun j => decide (j = i) || !((ops[j]?).any fun oj => oj.dst == some d)) && (zbm o).all fun j => decide (j < i)
section
variable {P : Program} {ops : Array Oper} {Q : Exit → Act → World → Prop} {Φ : Nat → Value → World → Prop} {a0 : Act} {w0 : World}
theorem growsB_at {n i : Nat} {o : Oper} (h : growsB ops n = true) (hi : ops[i]? = some o) :
    ∃ d, o.dst = some d ∧ d < n ∧ (∀ j oj, ops[j]? = some oj → oj.dst = some d → j = i) ∧ ∀ j ∈ zbm o, j < i := by
  unfold growsB at h
  have hlt : i < ops.size := (Array.getElem?_eq_some_iff.1 hi).1
  have h1 := List.all_eq_true.1 h i (List.mem_range.2 hlt)
  rw [hi] at h1
  simp only [Option.any_some, Bool.and_eq_true] at h1
  obtain ⟨h2, h3⟩ := h1
  cases hd : o.dst with
  | none => rw [hd] at h2; simp at h2
  | some d =>
    rw [hd] at h2
    simp only [Option.any_some, Bool.and_eq_true, decide_eq_true_eq] at h2
    refine ⟨d, rfl, h2.1, fun j oj hj hoj => ?_, fun j hj => by simpa using List.all_eq_true.1 h3 j hj⟩
    have hjl : j < ops.size := (Array.getElem?_eq_some_iff.1 hj).1
    have h4 := List.all_eq_true.1 h2.2 j (List.mem_range.2 hjl)
    rw [hj] at h4
    simp only [Option.any_some, hoj, beq_self_eq_true, Bool.not_true, Bool.or_false, decide_eq_true_eq] at h4
    exact h4
structure GrowInv (ops : Array Oper) (Φ : Nat → Value → World → Prop) (a0 : Act) (w0 : World) (listed : Array Bool) (a : Act) (w : World) : Prop where
  size : a.tmps.size = a0.tmps.size
  defers : a.defers = a0.defers
  below : Below w0.heap.size w0 w
  free : ∀ t, slotOf ops t = false → a.tmps[t]? = a0.tmps[t]?
  holds : ∀ j oj d, ops[j]? = some oj → listed[j]? = some true → oj.dst = some d → Φ j (a.tmps.getD d undef) w
theorem put_size (a : Act) (d : Tmp) (v : Value) : (a.put (some d) v).tmps.size = a.tmps.size := by simp [Act.put]
theorem zfs (a : Act) {d t : Nat} (v : Value) (h : t ≠ d) : (a.put (some d) v).tmps[t]? = a.tmps[t]? := by
  simp only [Act.put]
  rw [Array.getElem?_setIfInBounds_ne (Ne.symm h)]
theorem put_same (a : Act) {d : Nat} (v : Value) (h : d < a.tmps.size) : (a.put (some d) v).tmps.getD d undef = v := by
  simp [Act.put, h]
theorem getD_of {a b : Array Value} {t : Nat} (h : a[t]? = b[t]?) : a.getD t undef = b.getD t undef := by
  simp only [Array.getD_eq_getD_getElem?, h]
theorem zdl {listed : Array Bool} {i : Nat} {o : Oper} (hi : ops[i]? = some o) (hr : i ∈ Region.ready .any ops listed) : listed.getD i true = false ∧ ∀ j ∈ zbm o, listed.getD j false = true := by
  unfold Region.ready at hr
  have h1 := (List.mem_filter.1 hr).2
  rw [hi] at h1
  simp only [Option.map_some, Option.getD_some, Bool.and_eq_true, Bool.not_eq_true'] at h1
  refine ⟨h1.1, fun j hj => ?_⟩
  obtain ⟨e, he, rfl⟩ := List.mem_map.1 hj
  obtain ⟨he, hb⟩ := List.mem_filter.1 he
  have h2 := (Array.all_eq_true'.1 h1.2) e (by simpa using he)
  rw [hb] at h2
  simpa using h2
theorem wpAny_grow (hst : ∀ i v w w', Φ i v w → Below w.heap.size w w' → Φ i v w') (hg : growsB ops a0.tmps.size = true)
    (hstep : ∀ i o, ops[i]? = some o → ∀ (a : Act) (w : World), a.tmps.size = a0.tmps.size → a.defers = a0.defers → Below w0.heap.size w0 w → (∀ t, slotOf ops t = false → a.tmps[t]? = a0.tmps[t]?) →
      (∀ j oj d, j ∈ zbm o → ops[j]? = some oj → oj.dst = some d → Φ j (a.tmps.getD d undef) w) →
      if Region.wanted o (yielded ops a.tmps) = true then o.wp P a w (fun a' w' => ∃ v, a' = a.put o.dst v ∧ Below w.heap.size w w' ∧ Φ i v w') Q else Φ i undef w)
    (hend : ∀ (a : Act) (w : World), a.tmps.size = a0.tmps.size → a.defers = a0.defers → Below w0.heap.size w0 w → (∀ t, slotOf ops t = false → a.tmps[t]? = a0.tmps[t]?) →
      (∀ j oj d, ops[j]? = some oj → oj.dst = some d → Φ j (a.tmps.getD d undef) w) → Q .normal a w) :
    ∀ (fuel : Nat) (listed : Array Bool) (a : Act) (w : World), listed.size = ops.size → cntU listed.toList ≤ fuel → GrowInv ops Φ a0 w0 listed a w → wpAny P .any ops Q fuel listed a w := by
  have done : ∀ (listed : Array Bool) (a : Act) (w : World), listed.size = ops.size → Region.ready .any ops listed = [] → GrowInv ops Φ a0 w0 listed a w → Q .normal a w := by
    intro listed a w hsz hr inv
    have all : ∀ n i, i < n → i < ops.size → listed[i]? = some true := by
      intro n
      induction n with
      | zero => intro i hi; omega
      | succ n ih =>
        intro i hi hlt
        rcases Nat.lt_or_ge i n with h | h
        · exact ih i h hlt
        · obtain rfl : i = n := by omega
          have hl : i < listed.size := by omega
          cases hb : listed[i] with
          | true => rw [Array.getElem?_eq_getElem hl, hb]
          | false =>
            exfalso
            have hm : i ∈ Region.ready .any ops listed := by
              unfold Region.ready
              refine List.mem_filter.2 ⟨List.mem_range.2 hlt, ?_⟩
              have hi : ops[i]? = some ops[i] := Array.getElem?_eq_getElem hlt
              obtain ⟨d, hd, _, _, hn⟩ := growsB_at hg hi
              rw [hi]
              simp only [Option.map_some, Option.getD_some, Bool.and_eq_true, Bool.not_eq_true']
              refine ⟨by simp [Array.getD_eq_getD_getElem?, Array.getElem?_eq_getElem hl, hb], Array.all_eq_true'.2 fun e he => ?_⟩
              cases hbd : Region.binds .any e with
              | false => rfl
              | true =>
                have hj := hn e.on (List.mem_map.2 ⟨e, List.mem_filter.2 ⟨by simpa using he, hbd⟩, rfl⟩)
                have := ih e.on hj (by omega)
                simp [Array.getD_eq_getD_getElem?, this]
            rw [hr] at hm
            cases hm
    exact hend a w inv.size inv.defers inv.below inv.free fun j oj d hj hd => inv.holds j oj d hj (all (j + 1) j (by omega) (Array.getElem?_eq_some_iff.1 hj).1) hd
  intro fuel
  induction fuel with
  | zero =>
    intro listed a w hsz hc inv
    have hr : Region.ready .any ops listed = [] := by
      cases hr : Region.ready .any ops listed with
      | nil => rfl
      | cons i l =>
        exfalso
        have hm : i ∈ Region.ready .any ops listed := by rw [hr]; simp
        have hlt : i < ops.size := by
          unfold Region.ready at hm
          exact List.mem_range.1 (List.mem_filter.1 hm).1
        have h1 := (zdl (Array.getElem?_eq_getElem hlt) hm).1
        have hl : i < listed.size := by omega
        have h2 := cntU_zero (l := listed.toList) (i := i) (b := listed[i]) (by omega) (by simp [hl])
        simp [Array.getD_eq_getD_getElem?, Array.getElem?_eq_getElem hl, h2] at h1
    exact ⟨hr, done listed a w hsz hr inv⟩
  | succ fuel ih =>
    intro listed a w hsz hc inv
    refine ⟨fun hr => done listed a w hsz hr inv, fun i hm => ?_⟩
    have hlt : i < ops.size := by
      unfold Region.ready at hm
      exact List.mem_range.1 (List.mem_filter.1 hm).1
    have hi : ops[i]? = some ops[i] := Array.getElem?_eq_getElem hlt
    obtain ⟨h1, h2⟩ := zdl hi hm
    have hl : i < listed.size := by omega
    have hb : listed[i] = false := by simpa [Array.getD_eq_getD_getElem?, Array.getElem?_eq_getElem hl] using h1
    obtain ⟨d, hd, hdn, hdu, _⟩ := growsB_at hg hi
    have hs := hstep i ops[i] hi a w inv.size inv.defers inv.below inv.free fun j oj dj hj hoj hdj => inv.holds j oj dj hoj (by
      have h3 := h2 j hj
      have hjl : j < listed.size := by
        have := (Array.getElem?_eq_some_iff.1 hoj).1
        omega
      rw [Array.getElem?_eq_getElem hjl]
      simp only [Array.getD_eq_getD_getElem?, Array.getElem?_eq_getElem hjl, Option.getD_some] at h3
      rw [h3]) hdj
    have next : ∀ (v : Value) (w' : World), Below w.heap.size w w' → Φ i v w' → wpAny P .any ops Q fuel (listed.setIfInBounds i true) (a.put ops[i].dst v) w' := by
      intro v w' hbw hv
      rw [hd]
      refine ih _ _ _ (by simp [hsz]) ?_ ⟨by rw [put_size]; exact inv.size, inv.defers, inv.below.trans (hbw.mono inv.below.size), fun t ht => ?_, fun j oj dj hj hlj hdj => ?_⟩
      · have := cntU_set (l := listed.toList) (i := i) (by simp [hl, hb])
        simp only [Array.toList_setIfInBounds]
        omega
      · rw [zfs _ _ (by
          rintro rfl
          unfold slotOf at ht
          rw [List.any_eq_false] at ht
          exact ht ops[i] (by simp) (by rw [hd]; simp))]
        exact inv.free t ht
      · by_cases hji : j = i
        · subst hji
          rw [hi] at hj
          cases hj
          rw [hd] at hdj
          cases hdj
          rw [put_same _ _ (by rw [inv.size]; exact hdn)]
          exact hv
        · have hne : dj ≠ d := fun e => hji (hdu j oj hj (by rw [hdj, e]))
          rw [getD_of (zfs a v hne)]
          refine hst _ _ _ _ (inv.holds j oj dj hj ?_ hdj) hbw
          rwa [Array.getElem?_setIfInBounds_ne (Ne.symm hji)] at hlj
    unfold wpOp
    rw [hi]
    simp only
    split
    · rename_i hw
      rw [if_pos hw] at hs
      exact .inl (Oper.wp_mono (fun a' w' ⟨v, ha, hbw, hv⟩ => by rw [ha]; exact next v w' hbw hv) hs)
    · rename_i hw
      rw [if_neg hw] at hs
      exact next undef w (Below.refl _ _) hs
theorem wp_region_grow {id : Nat} (Φ : Nat → Value → World → Prop) (hm : P.follows .mixedOrders = true) (hst : ∀ i v w w', Φ i v w → Below w.heap.size w w' → Φ i v w') (hg : growsB ops a0.tmps.size = true)
    (hstep : ∀ i o, ops[i]? = some o → ∀ (a : Act) (w : World), a.tmps.size = a0.tmps.size → a.defers = a0.defers → Below w0.heap.size w0 w → (∀ t, slotOf ops t = false → a.tmps[t]? = a0.tmps[t]?) →
      (∀ j oj d, j ∈ zbm o → ops[j]? = some oj → oj.dst = some d → Φ j (a.tmps.getD d undef) w) →
      if Region.wanted o (yielded ops a.tmps) = true then o.wp P a w (fun a' w' => ∃ v, a' = a.put o.dst v ∧ Below w.heap.size w w' ∧ Φ i v w') Q else Φ i undef w)
    (hend : ∀ (a : Act) (w : World), a.tmps.size = a0.tmps.size → a.defers = a0.defers → Below w0.heap.size w0 w → (∀ t, slotOf ops t = false → a.tmps[t]? = a0.tmps[t]?) →
      (∀ j oj d, ops[j]? = some oj → oj.dst = some d → Φ j (a.tmps.getD d undef) w) → Q .normal a w) :
    (Code.region id ops true).wp P Q a0 w0 := by
  refine wp_region_any hm (wpAny_grow hst hg hstep hend _ _ _ _ (by simp) (by simp [zdd]) ⟨rfl, rfl, ⟨rfl, rfl, rfl, Nat.le_refl _, fun _ _ => rfl⟩, fun _ _ => rfl, fun j oj d hj hlj hd => ?_⟩)
  rw [Array.getElem?_replicate] at hlj
  split at hlj <;> cases hlj
end
def growsS (ops : Array Oper) (n m : Nat) : Bool :=
  decide (ops.size = n + 1) && (ops[n]?).any (fun o => o.guard.isNone && (zbm o).all fun j => decide (j < n)) && (List.range n).all fun i => (ops[i]?).any fun o =>
    (o.dst.any fun d => decide (d < m) && (List.range n).all fun j => decide (j = i) || !((ops[j]?).any fun oj => oj.dst == some d)) && ((zbm o).all fun j => decide (j < i)) &&
      (List.range (n + 1)).any fun k => decide (i < k) && (ops[k]?).any fun ok => (zbm ok).contains i
def slotN (ops : Array Oper) (n : Nat) (t : Nat) : Bool := (List.range n).any fun i => (ops[i]?).any fun o => o.dst == some t
section
variable {P : Program} {ops : Array Oper} {Q : Exit → Act → World → Prop} {Φ : Nat → Value → World → Prop} {a0 : Act} {w0 : World} {n : Nat}
theorem growsS_at {m i : Nat} {o : Oper} (h : growsS ops n m = true) (hin : i < n) (hi : ops[i]? = some o) :
    ∃ d, o.dst = some d ∧ d < m ∧ (∀ j oj, j < n → ops[j]? = some oj → oj.dst = some d → j = i) ∧ (∀ j ∈ zbm o, j < i) ∧ ∃ k ok, i < k ∧ k ≤ n ∧ ops[k]? = some ok ∧ i ∈ zbm ok := by
  unfold growsS at h
  rw [Bool.and_eq_true, Bool.and_eq_true] at h
  have h1 := List.all_eq_true.1 h.2 i (List.mem_range.2 hin)
  rw [hi] at h1
  simp only [Option.any_some, Bool.and_eq_true] at h1
  obtain ⟨⟨h2, h3⟩, h4⟩ := h1
  cases hd : o.dst with
  | none => rw [hd] at h2; simp at h2
  | some d =>
    rw [hd] at h2
    simp only [Option.any_some, Bool.and_eq_true, decide_eq_true_eq] at h2
    refine ⟨d, rfl, h2.1, fun j oj hjn hj hoj => ?_, fun j hj => by simpa using List.all_eq_true.1 h3 j hj, ?_⟩
    · have h4 := List.all_eq_true.1 h2.2 j (List.mem_range.2 hjn)
      rw [hj] at h4
      simp only [Option.any_some, hoj, beq_self_eq_true, Bool.not_true, Bool.or_false, decide_eq_true_eq] at h4
      exact h4
    · obtain ⟨k, hk, h5⟩ := List.any_eq_true.1 h4
      rw [Bool.and_eq_true, decide_eq_true_eq] at h5
      cases hok : ops[k]? with
      | none => rw [hok] at h5; simp at h5
      | some ok =>
        rw [hok] at h5
        exact ⟨k, ok, h5.1, Nat.lt_succ_iff.1 (List.mem_range.1 hk), hok, by simpa using h5.2⟩
theorem growsS_last {m : Nat} (h : growsS ops n m = true) : ops.size = n + 1 ∧ ∃ o, ops[n]? = some o ∧ o.guard = none ∧ ∀ j ∈ zbm o, j < n := by
  unfold growsS at h
  rw [Bool.and_eq_true, Bool.and_eq_true, decide_eq_true_eq] at h
  refine ⟨h.1.1, ?_⟩
  cases ho : ops[n]? with
  | none => have := h.1.2; rw [ho] at this; simp at this
  | some o =>
    have := h.1.2
    rw [ho] at this
    simp only [Option.any_some, Bool.and_eq_true, Option.isNone_iff_eq_none] at this
    exact ⟨o, rfl, this.1, fun j hj => by simpa using List.all_eq_true.1 this.2 j hj⟩
structure GrowInvS (ops : Array Oper) (n : Nat) (Φ : Nat → Value → World → Prop) (a0 : Act) (w0 : World) (listed : Array Bool) (a : Act) (w : World) : Prop where
  size : a.tmps.size = a0.tmps.size
  defers : a.defers = a0.defers
  below : Below w0.heap.size w0 w
  free : ∀ t, slotN ops n t = false → a.tmps[t]? = a0.tmps[t]?
  holds : ∀ j oj d, j < n → ops[j]? = some oj → listed[j]? = some true → oj.dst = some d → Φ j (a.tmps.getD d undef) w
  down : ∀ (i : Nat) (o : Oper), ops[i]? = some o → listed[i]? = some true → ∀ j ∈ zbm o, listed[j]? = some true
  last : listed[n]? = some false
theorem all_listed {m : Nat} {listed : Array Bool} (hg : growsS ops n m = true) (hlast : ∀ o, ops[n]? = some o → ∀ j ∈ zbm o, listed[j]? = some true) (hdown : ∀ (i : Nat) (o : Oper), ops[i]? = some o → listed[i]? = some true → ∀ j ∈ zbm o, listed[j]? = some true) :
    ∀ j, j < n → listed[j]? = some true := by
  have key : ∀ k j, n - k ≤ j → j < n → listed[j]? = some true := by
    intro k
    induction k with
    | zero => intro j h1 h2; omega
    | succ k ih =>
      intro j h1 h2
      rcases Nat.lt_or_ge j (n - k) with h | h
      · obtain ⟨hs, _⟩ := growsS_last hg
        have hlt : j < ops.size := by omega
        obtain ⟨d, _, _, _, _, i, oi, hji, hin, hoi, hmem⟩ := growsS_at hg h2 (Array.getElem?_eq_getElem hlt)
        rcases Nat.lt_or_ge i n with h3 | h3
        · exact hdown i oi hoi (ih i (by omega) h3) j hmem
        · obtain rfl : i = n := by omega
          exact hlast oi hoi j hmem
      · exact ih j h h2
  exact fun j hj => key n j (by omega) hj
theorem wpAny_growS (hst : ∀ i v w w', Φ i v w → Below w.heap.size w w' → Φ i v w') (hg : growsS ops n a0.tmps.size = true)
    (hstep : ∀ i o, i < n → ops[i]? = some o → ∀ (a : Act) (w : World), a.tmps.size = a0.tmps.size → a.defers = a0.defers → Below w0.heap.size w0 w → (∀ t, slotN ops n t = false → a.tmps[t]? = a0.tmps[t]?) →
      (∀ j oj d, j ∈ zbm o → ops[j]? = some oj → oj.dst = some d → Φ j (a.tmps.getD d undef) w) →
      if Region.wanted o (yielded ops a.tmps) = true then o.wp P a w (fun a' w' => ∃ v, a' = a.put o.dst v ∧ Below w.heap.size w w' ∧ Φ i v w') Q else Φ i undef w)
    (hend : ∀ o, ops[n]? = some o → ∀ (a : Act) (w : World), a.tmps.size = a0.tmps.size → a.defers = a0.defers → Below w0.heap.size w0 w → (∀ t, slotN ops n t = false → a.tmps[t]? = a0.tmps[t]?) →
      (∀ j oj d, j < n → ops[j]? = some oj → oj.dst = some d → Φ j (a.tmps.getD d undef) w) → o.wp P a w (fun a' w' => Q .normal a' w') Q) :
    ∀ (fuel : Nat) (listed : Array Bool) (a : Act) (w : World), listed.size = ops.size → cntU listed.toList ≤ fuel → GrowInvS ops n Φ a0 w0 listed a w → wpAny P .any ops Q fuel listed a w := by
  obtain ⟨hsize, oL, hoL, hgL, hnL⟩ := growsS_last hg
  have stuck : ∀ (listed : Array Bool) (a : Act) (w : World), listed.size = ops.size → Region.ready .any ops listed = [] → GrowInvS ops n Φ a0 w0 listed a w → False := by
    intro listed a w hsz hr inv
    have all : ∀ k i, i < k → i < n → listed[i]? = some true := by
      intro k
      induction k with
      | zero => intro i hi; omega
      | succ k ih =>
        intro i hi hlt
        rcases Nat.lt_or_ge i k with h | h
        · exact ih i h hlt
        · obtain rfl : i = k := by omega
          have hlo : i < ops.size := by omega
          have hl : i < listed.size := by omega
          cases hb : listed[i] with
          | true => rw [Array.getElem?_eq_getElem hl, hb]
          | false =>
            exfalso
            have hm : i ∈ Region.ready .any ops listed := by
              unfold Region.ready
              refine List.mem_filter.2 ⟨List.mem_range.2 hlo, ?_⟩
              have hi : ops[i]? = some ops[i] := Array.getElem?_eq_getElem hlo
              obtain ⟨d, hd, _, _, hn, _⟩ := growsS_at hg hlt hi
              rw [hi]
              simp only [Option.map_some, Option.getD_some, Bool.and_eq_true, Bool.not_eq_true']
              refine ⟨by simp [Array.getD_eq_getD_getElem?, Array.getElem?_eq_getElem hl, hb], Array.all_eq_true'.2 fun e he => ?_⟩
              cases hbd : Region.binds .any e with
              | false => rfl
              | true =>
                have hj := hn e.on (List.mem_map.2 ⟨e, List.mem_filter.2 ⟨by simpa using he, hbd⟩, rfl⟩)
                have := ih e.on hj (by omega)
                simp [Array.getD_eq_getD_getElem?, this]
            rw [hr] at hm
            cases hm
    have hm : n ∈ Region.ready .any ops listed := by
      unfold Region.ready
      refine List.mem_filter.2 ⟨List.mem_range.2 (by omega), ?_⟩
      rw [hoL]
      simp only [Option.map_some, Option.getD_some, Bool.and_eq_true, Bool.not_eq_true']
      refine ⟨by rw [Array.getD_eq_getD_getElem?, inv.last]; rfl, Array.all_eq_true'.2 fun e he => ?_⟩
      cases hbd : Region.binds .any e with
      | false => rfl
      | true =>
        have hj := hnL e.on (List.mem_map.2 ⟨e, List.mem_filter.2 ⟨by simpa using he, hbd⟩, rfl⟩)
        have := all (e.on + 1) e.on (by omega) hj
        simp [Array.getD_eq_getD_getElem?, this]
    rw [hr] at hm
    cases hm
  have ended : ∀ (fuel : Nat) (listed : Array Bool) (a : Act) (w : World), listed.size = ops.size → (∀ j, j < ops.size → listed[j]? = some true) → Q .normal a w → wpAny P .any ops Q fuel listed a w := by
    intro fuel listed a w hsz hall hQ
    have hr : Region.ready .any ops listed = [] := by
      cases hr : Region.ready .any ops listed with
      | nil => rfl
      | cons i l =>
        exfalso
        have hm : i ∈ Region.ready .any ops listed := by rw [hr]; simp
        have hlt : i < ops.size := by
          unfold Region.ready at hm
          exact List.mem_range.1 (List.mem_filter.1 hm).1
        have h1 := (zdl (Array.getElem?_eq_getElem hlt) hm).1
        simp [Array.getD_eq_getD_getElem?, hall i hlt] at h1
    cases fuel with
    | zero => exact ⟨hr, hQ⟩
    | succ fuel => exact ⟨fun _ => hQ, fun i hm => by rw [hr] at hm; cases hm⟩
  intro fuel
  induction fuel with
  | zero =>
    intro listed a w hsz hc inv
    have hr : Region.ready .any ops listed = [] := by
      cases hr : Region.ready .any ops listed with
      | nil => rfl
      | cons i l =>
        exfalso
        have hm : i ∈ Region.ready .any ops listed := by rw [hr]; simp
        have hlt : i < ops.size := by
          unfold Region.ready at hm
          exact List.mem_range.1 (List.mem_filter.1 hm).1
        have h1 := (zdl (Array.getElem?_eq_getElem hlt) hm).1
        have hl : i < listed.size := by omega
        have h2 := cntU_zero (l := listed.toList) (i := i) (b := listed[i]) (by omega) (by simp [hl])
        simp [Array.getD_eq_getD_getElem?, Array.getElem?_eq_getElem hl, h2] at h1
    exact (stuck listed a w hsz hr inv).elim
  | succ fuel ih =>
    intro listed a w hsz hc inv
    refine ⟨fun hr => (stuck listed a w hsz hr inv).elim, fun i hm => ?_⟩
    have hlt : i < ops.size := by
      unfold Region.ready at hm
      exact List.mem_range.1 (List.mem_filter.1 hm).1
    have hi : ops[i]? = some ops[i] := Array.getElem?_eq_getElem hlt
    obtain ⟨h1, h2⟩ := zdl hi hm
    have hl : i < listed.size := by omega
    have hb : listed[i] = false := by simpa [Array.getD_eq_getD_getElem?, Array.getElem?_eq_getElem hl] using h1
    have need : ∀ j ∈ zbm ops[i], listed[j]? = some true := by
      intro j hj
      have h3 := h2 j hj
      rcases Nat.lt_or_ge j listed.size with hjl | hjl
      · rw [Array.getElem?_eq_getElem hjl]
        simp only [Array.getD_eq_getD_getElem?, Array.getElem?_eq_getElem hjl, Option.getD_some] at h3
        rw [h3]
      · simp [Array.getD_eq_getD_getElem?, Array.getElem?_eq_none hjl] at h3
    rcases Nat.lt_or_ge i n with hin | hin
    · obtain ⟨d, hd, hdn, hdu, _, _⟩ := growsS_at hg hin hi
      have hs := hstep i ops[i] hin hi a w inv.size inv.defers inv.below inv.free fun j oj dj hj hoj hdj => inv.holds j oj dj (by
        have := growsS_at hg hin hi
        obtain ⟨_, _, _, _, h5, _⟩ := this
        have := h5 j hj
        omega) hoj (need j hj) hdj
      have next : ∀ (v : Value) (w' : World), Below w.heap.size w w' → Φ i v w' → wpAny P .any ops Q fuel (listed.setIfInBounds i true) (a.put ops[i].dst v) w' := by
        intro v w' hbw hv
        rw [hd]
        refine ih _ _ _ (by simp [hsz]) ?_ ⟨by rw [put_size]; exact inv.size, inv.defers, inv.below.trans (hbw.mono inv.below.size), fun t ht => ?_, fun j oj dj hjn hj hlj hdj => ?_, fun k o hk hlk j hj => ?_, ?_⟩
        · have := cntU_set (l := listed.toList) (i := i) (by simp [hl, hb])
          simp only [Array.toList_setIfInBounds]
          omega
        · rw [zfs _ _ (by
            rintro rfl
            unfold slotN at ht
            rw [List.any_eq_false] at ht
            have := ht i (List.mem_range.2 hin)
            rw [hi] at this
            simp [hd] at this)]
          exact inv.free t ht
        · by_cases hji : j = i
          · subst hji
            rw [hi] at hj
            cases hj
            rw [hd] at hdj
            cases hdj
            rw [put_same _ _ (by rw [inv.size]; exact hdn)]
            exact hv
          · have hne : dj ≠ d := fun e => hji (hdu j oj hjn hj (by rw [hdj, e]))
            rw [getD_of (zfs a v hne)]
            refine hst _ _ _ _ (inv.holds j oj dj hjn hj ?_ hdj) hbw
            rwa [Array.getElem?_setIfInBounds_ne (Ne.symm hji)] at hlj
        · have hj' : listed[j]? = some true := by
            by_cases hki : k = i
            · subst hki
              rw [hi] at hk
              cases hk
              exact need j hj
            · rw [Array.getElem?_setIfInBounds_ne (Ne.symm hki)] at hlk
              exact inv.down k o hk hlk j hj
          by_cases hji : j = i
          · subst hji
            rw [Array.getElem?_setIfInBounds_self_of_lt hl]
          · rw [Array.getElem?_setIfInBounds_ne (Ne.symm hji)]
            exact hj'
        · rw [Array.getElem?_setIfInBounds_ne (by omega)]
          exact inv.last
      unfold wpOp
      rw [hi]
      simp only
      split
      · rename_i hw
        rw [if_pos hw] at hs
        exact .inl (Oper.wp_mono (fun a' w' ⟨v, ha, hbw, hv⟩ => by rw [ha]; exact next v w' hbw hv) hs)
      · rename_i hw
        rw [if_neg hw] at hs
        exact next undef w (Below.refl _ _) hs
    · obtain rfl : i = n := by omega
      have hoi : ops[i] = oL := by rw [hi] at hoL; exact Option.some.inj hoL
      have hall := all_listed hg (fun o ho j hj => by rw [hi] at ho; cases ho; exact need j hj) inv.down
      have hs := hend ops[i] hi a w inv.size inv.defers inv.below inv.free fun j oj dj hjn hoj hdj => inv.holds j oj dj hjn hoj (hall j hjn) hdj
      unfold wpOp
      rw [hi]
      simp only
      have hw : Region.wanted ops[i] (yielded ops a.tmps) = true := by rw [hoi]; unfold Region.wanted; rw [hgL]
      rw [if_pos hw]
      refine .inl (Oper.wp_mono (fun a' w' hQ => ended _ _ _ _ (by simp [hsz]) (fun j hj => ?_) hQ) hs)
      by_cases hji : j = i
      · subst hji
        rw [Array.getElem?_setIfInBounds_self_of_lt hl]
      · rw [Array.getElem?_setIfInBounds_ne (Ne.symm hji)]
        exact hall j (by omega)
theorem wp_region_growS {id : Nat} (n : Nat) (Φ : Nat → Value → World → Prop) (hm : P.follows .mixedOrders = true) (hst : ∀ i v w w', Φ i v w → Below w.heap.size w w' → Φ i v w') (hg : growsS ops n a0.tmps.size = true)
    (hstep : ∀ i o, i < n → ops[i]? = some o → ∀ (a : Act) (w : World), a.tmps.size = a0.tmps.size → a.defers = a0.defers → Below w0.heap.size w0 w → (∀ t, slotN ops n t = false → a.tmps[t]? = a0.tmps[t]?) →
      (∀ j oj d, j ∈ zbm o → ops[j]? = some oj → oj.dst = some d → Φ j (a.tmps.getD d undef) w) →
      if Region.wanted o (yielded ops a.tmps) = true then o.wp P a w (fun a' w' => ∃ v, a' = a.put o.dst v ∧ Below w.heap.size w w' ∧ Φ i v w') Q else Φ i undef w)
    (hend : ∀ o, ops[n]? = some o → ∀ (a : Act) (w : World), a.tmps.size = a0.tmps.size → a.defers = a0.defers → Below w0.heap.size w0 w → (∀ t, slotN ops n t = false → a.tmps[t]? = a0.tmps[t]?) →
      (∀ j oj d, j < n → ops[j]? = some oj → oj.dst = some d → Φ j (a.tmps.getD d undef) w) → o.wp P a w (fun a' w' => Q .normal a' w') Q) :
    (Code.region id ops true).wp P Q a0 w0 := by
  have hs := (growsS_last hg).1
  refine wp_region_any hm (wpAny_growS hst hg hstep hend _ _ _ _ (by simp) (by simp [zdd]) ⟨rfl, rfl, ⟨rfl, rfl, rfl, Nat.le_refl _, fun _ _ => rfl⟩, fun _ _ => rfl, fun j oj d hjn hj hlj hd => ?_, fun i o hi hl => ?_, ?_⟩)
  · rw [Array.getElem?_replicate] at hlj
    split at hlj <;> cases hlj
  · rw [Array.getElem?_replicate] at hl
    split at hl <;> cases hl
  · rw [Array.getElem?_replicate, if_pos (by omega)]
end
theorem zal {T : Array Value} {t : Nat} {v : Value} (h : t < T.size) (hv : T.getD t undef = v) : T[t]? = some v := by
  rw [Array.getElem?_eq_getElem h]
  simp only [Array.getD_eq_getD_getElem?, Array.getElem?_eq_getElem h, Option.getD_some] at hv
  rw [hv]
theorem zbu {T : Array Value} {t : Nat} (h : t < T.size) : ∃ v, T[t]? = some v ∧ T.getD t undef = v := ⟨_, zal h rfl, rfl⟩
theorem grow_on {o oj : Oper} {ops : Array Oper} {T : Array Value} {j d : Nat} {want : Bool} {A B : Prop} (hg : o.guard = some (j, want)) (hj : ops[j]? = some oj) (hd : oj.dst = some d) (hT : T[d]? = some (.bool want)) (h : A) :
    if Region.wanted o (yielded ops T) = true then A else B := by
  rw [if_pos (by simp [Region.wanted, yielded, hg, hj, hd, hT])]
  exact h
theorem grow_off {o oj : Oper} {ops : Array Oper} {T : Array Value} {j d : Nat} {want b : Bool} {A B : Prop} (hg : o.guard = some (j, want)) (hj : ops[j]? = some oj) (hd : oj.dst = some d) (hT : T[d]? = some (.bool b)) (hne : b ≠ want) (h : B) :
    if Region.wanted o (yielded ops T) = true then A else B := by
  rw [if_neg (by simp [Region.wanted, yielded, hg, hj, hd, hT]; exact hne)]
  exact h
theorem zah {o : Oper} {ops : Array Oper} {T : Array Value} {A B : Prop} (hg : o.guard = none) (h : A) :
    if Region.wanted o (yielded ops T) = true then A else B := by
  rw [if_pos (by simp [Region.wanted, hg])]
  exact h
theorem zen {P : Program} {id : Nat} {lit : Array Oper} {d : Bool} {Q : Exit → Act → World → Prop} {a : Act} {w : World} (h : ∀ ops, ops = lit → (Code.region id ops d).wp P Q a w) : (Code.region id lit d).wp P Q a w := h lit rfl
theorem zar {ops lit : Array Oper} {j : Nat} {o : Oper} (h : ops = lit) (ho : lit[j]? = some o) : ops[j]? = some o := by rw [h]; exact ho
theorem slot_abs {ops lit : Array Oper} (h : ops = lit) (t : Nat) (hs : slotOf lit t = false) : slotOf ops t = false := by rw [h]; exact hs
theorem slotN_abs {ops lit : Array Oper} {n : Nat} (h : ops = lit) (t : Nat) (hs : slotN lit n t = false) : slotN ops n t = false := by rw [h]; exact hs
theorem odt {p : Prop} [Decidable p] (h : decide p = true) : p := of_decide_eq_true h
theorem zbk {o oj : Oper} {ops : Array Oper} {T : Array Value} {j d : Nat} {want C : Bool} {A B : Prop} (hg : o.guard = some (j, want)) (hj : ops[j]? = some oj) (hd : oj.dst = some d) (hT : T.getD d undef = .bool C) (hs : d < T.size)
    (hon : C = want → T[d]? = some (.bool want) → A) (hoff : C = !want → B) : if Region.wanted o (yielded ops T) = true then A else B := by
  have e := zal hs hT
  by_cases hc : C = want
  · subst hc
    exact grow_on hg hj hd e (hon rfl e)
  · exact grow_off hg hj hd e hc (hoff (by cases C <;> cases want <;> simp_all))
theorem zao {P : Program} {o : Oper} {a : Act} {w : World} {Φ : Value → World → Prop} {Q : Exit → Act → World → Prop} (h : ∀ K : Act → World → Prop, (∀ v w', Below w.heap.size w w' → Φ v w' → K (a.put o.dst v) w') → o.wp P a w K Q) : o.wp P a w (fun a' w' => ∃ v, a' = a.put o.dst v ∧ Below w.heap.size w w' ∧ Φ v w') Q :=
  h _ fun v w' hb hv => ⟨v, rfl, hb, hv⟩
theorem last_k {P : Program} {o : Oper} {a : Act} {w : World} {Q : Exit → Act → World → Prop} (h : ∀ K : Act → World → Prop, (∀ a w, Q .normal a w → K a w) → o.wp P a w K Q) : o.wp P a w (fun a' w' => Q .normal a' w') Q := h _ fun _ _ h => h
def zdw (T : Array Value) (o : Oper) : Value := match o.dst with | some d => T.getD d undef | none => undef
section
variable {ops : Array Oper}
end
def growsZ (ops : Array Oper) (n m : Nat) : Bool :=
  decide (n < ops.size) && ((List.range n).all fun i => (ops[i]?).any fun o =>
    (o.dst.all fun d => decide (d < m) && (List.range n).all fun j => decide (j = i) || !((ops[j]?).any fun oj => oj.dst == some d)) && ((zbm o).all fun j => decide (j < i)) &&
      (List.range (n + 1)).any fun k => decide (i < k) && (ops[k]?).any fun ok => (zbm ok).contains i) &&
  (List.range ops.size).all fun k => decide (k ≤ n) || (ops[k]?).any fun ok => (zbm ok).contains n
def slotZ (ops : Array Oper) (n : Nat) (t : Nat) : Bool := (List.range n).any fun i => (ops[i]?).any fun o => o.dst == some t
theorem zft {ops lit : Array Oper} {n : Nat} (h : ops = lit) (t : Nat) (hs : slotZ lit n t = false) : slotZ ops n t = false := by rw [h]; exact hs
def firstZ (n m : Nat) : Array Bool := Array.replicate n true ++ Array.replicate (m - n) false
def updX (X : Nat → Option Value) (i : Nat) (v : Value) : Nat → Option Value := fun j => if j = i then some v else X j
theorem updX_ne {X : Nat → Option Value} {i j : Nat} {v : Value} (h : j ≠ i) : updX X i v j = X j := if_neg h
section
variable {P : Program} {ops : Array Oper} {Q : Exit → Act → World → Prop} {Φ : Nat → Value → World → (Nat → Option Value) → Prop} {Pre : Nat → World → Prop} {J : World → Prop} {E : Nat → World → World → Prop} {a0 : Act} {w0 : World} {n : Nat}
theorem growsZ_at {m i : Nat} {o : Oper} (h : growsZ ops n m = true) (hin : i < n) (hi : ops[i]? = some o) :
    (∀ d, o.dst = some d → d < m ∧ ∀ j oj, j < n → ops[j]? = some oj → oj.dst = some d → j = i) ∧ (∀ j ∈ zbm o, j < i) ∧ ∃ k ok, i < k ∧ k ≤ n ∧ ops[k]? = some ok ∧ i ∈ zbm ok := by
  unfold growsZ at h
  rw [Bool.and_eq_true, Bool.and_eq_true] at h
  have h1 := List.all_eq_true.1 h.1.2 i (List.mem_range.2 hin)
  rw [hi] at h1
  simp only [Option.any_some, Bool.and_eq_true] at h1
  obtain ⟨⟨h2, h3⟩, h4⟩ := h1
  refine ⟨fun d hd => ?_, fun j hj => by simpa using List.all_eq_true.1 h3 j hj, ?_⟩
  · rw [hd] at h2
    simp only [Option.all_some, Bool.and_eq_true, decide_eq_true_eq] at h2
    refine ⟨h2.1, fun j oj hjn hj hoj => ?_⟩
    have h4 := List.all_eq_true.1 h2.2 j (List.mem_range.2 hjn)
    rw [hj] at h4
    simp only [Option.any_some, hoj, beq_self_eq_true, Bool.not_true, Bool.or_false, decide_eq_true_eq] at h4
    exact h4
  · obtain ⟨k, hk, h5⟩ := List.any_eq_true.1 h4
    rw [Bool.and_eq_true, decide_eq_true_eq] at h5
    cases hok : ops[k]? with
    | none => rw [hok] at h5; simp at h5
    | some ok =>
      rw [hok] at h5
      exact ⟨k, ok, h5.1, Nat.lt_succ_iff.1 (List.mem_range.1 hk), hok, by simpa using h5.2⟩
theorem growsZ_lt {m : Nat} (h : growsZ ops n m = true) : n < ops.size := by
  unfold growsZ at h
  rw [Bool.and_eq_true, Bool.and_eq_true, decide_eq_true_eq] at h
  exact h.1.1
theorem growsZ_tail {m k : Nat} {o : Oper} (h : growsZ ops n m = true) (hk : n < k) (ho : ops[k]? = some o) : n ∈ zbm o := by
  unfold growsZ at h
  rw [Bool.and_eq_true] at h
  have h1 := List.all_eq_true.1 h.2 k (List.mem_range.2 (Array.getElem?_eq_some_iff.1 ho).1)
  rw [ho, Bool.or_eq_true, decide_eq_true_eq] at h1
  rcases h1 with h1 | h1
  · omega
  · simpa using h1
structure GrowInvZ (ops : Array Oper) (n : Nat) (Φ : Nat → Value → World → (Nat → Option Value) → Prop) (Pre : Nat → World → Prop) (J : World → Prop) (a0 : Act) (X : Nat → Option Value) (listed : Array Bool) (a : Act) (w : World) : Prop where
  size : a.tmps.size = a0.tmps.size
  defers : a.defers = a0.defers
  inv : J w
  pre : ∀ i, listed[i]? = some false → Pre i w
  free : ∀ t, slotZ ops n t = false → a.tmps[t]? = a0.tmps[t]?
  holds : ∀ j oj, j < n → ops[j]? = some oj → listed[j]? = some true → Φ j (zdw a.tmps oj) w X
  known : ∀ j oj, ops[j]? = some oj → X j = if listed[j]? = some true then some (zdw a.tmps oj) else none
  down : ∀ (i : Nat) (o : Oper), ops[i]? = some o → listed[i]? = some true → ∀ j ∈ zbm o, listed[j]? = some true
  last : ∀ k, n ≤ k → k < ops.size → listed[k]? = some false
theorem all_listedZ {m : Nat} {listed : Array Bool} (hg : growsZ ops n m = true) (hlast : ∀ o, ops[n]? = some o → ∀ j ∈ zbm o, listed[j]? = some true) (hdown : ∀ (i : Nat) (o : Oper), ops[i]? = some o → listed[i]? = some true → ∀ j ∈ zbm o, listed[j]? = some true) :
    ∀ j, j < n → listed[j]? = some true := by
  have key : ∀ k j, n - k ≤ j → j < n → listed[j]? = some true := by
    intro k
    induction k with
    | zero => intro j h1 h2; omega
    | succ k ih =>
      intro j h1 h2
      rcases Nat.lt_or_ge j (n - k) with h | h
      · have hs := growsZ_lt hg
        have hlt : j < ops.size := by omega
        obtain ⟨_, _, i, oi, hji, hin, hoi, hmem⟩ := growsZ_at hg h2 (Array.getElem?_eq_getElem hlt)
        rcases Nat.lt_or_ge i n with h3 | h3
        · exact hdown i oi hoi (ih i (by omega) h3) j hmem
        · obtain rfl : i = n := by omega
          exact hlast oi hoi j hmem
      · exact ih j h h2
  exact fun j hj => key n j (by omega) hj
theorem first_eq {listed : Array Bool} (hs : listed.size = ops.size) (hn : n < ops.size) (h1 : ∀ j, j < n → listed[j]? = some true) (h2 : ∀ k, n ≤ k → k < ops.size → listed[k]? = some false) : listed = firstZ n ops.size := by
  apply Array.ext_getElem?
  intro i
  unfold firstZ
  rw [Array.getElem?_append]
  simp only [Array.size_replicate]
  rcases Nat.lt_or_ge i n with h | h
  · rw [if_pos h, h1 i h, Array.getElem?_replicate, if_pos h]
  · rw [if_neg (by omega), Array.getElem?_replicate]
    rcases Nat.lt_or_ge i ops.size with h3 | h3
    · rw [if_pos (by omega), h2 i h h3]
    · rw [if_neg (by omega), Array.getElem?_eq_none (by omega)]
theorem cntU_append (a b : List Bool) : cntU (a ++ b) = cntU a + cntU b := by
  induction a with
  | nil => simp [cntU]
  | cons x a ih => simp only [List.cons_append, cntU, ih]; omega
theorem cntU_trues (k : Nat) : cntU (List.replicate k true) = 0 := by
  induction k with
  | zero => rfl
  | succ k ih => rw [List.replicate_succ, cntU, ih]; simp
theorem cntU_first (k m : Nat) : cntU (firstZ k m).toList = m - k := by
  unfold firstZ
  rw [Array.toList_append, Array.toList_replicate, Array.toList_replicate, cntU_append, cntU_trues, zdd, Nat.zero_add]
theorem wpAny_rz (hPs : ∀ i k w w', i ≠ k → Pre i w → J w → E k w w' → Pre i w') (hst : ∀ i k v w w' X u, i ≠ k → X k = none → Φ i v w X → J w → E k w w' → Φ i v w' (updX X k u)) (hg : growsZ ops n a0.tmps.size = true)
    (hseq : Region.seqB .any ops (ops.toList.drop n).length n (firstZ n ops.size) = true)
    (hstep : ∀ i o, i < n → ops[i]? = some o → ∀ (a : Act) (w : World) (X : Nat → Option Value), a.tmps.size = a0.tmps.size → a.defers = a0.defers → J w → Pre i w → X i = none → (∀ t, slotZ ops n t = false → a.tmps[t]? = a0.tmps[t]?) →
      (∀ j oj, j ∈ zbm o → ops[j]? = some oj → X j = some (zdw a.tmps oj) ∧ Φ j (zdw a.tmps oj) w X) →
      if Region.wanted o (yielded ops a.tmps) = true then o.wp P a w (fun a' w' => ∃ v, a' = a.put o.dst v ∧ E i w w' ∧ J w' ∧ Φ i (if o.dst.isSome then v else undef) w' (updX X i (if o.dst.isSome then v else undef))) Q else ∀ u, Φ i u w (updX X i u) ∧ E i w w)
    (hend : ∀ (a : Act) (w : World) (X : Nat → Option Value), a.tmps.size = a0.tmps.size → a.defers = a0.defers → J w → (∀ t, slotZ ops n t = false → a.tmps[t]? = a0.tmps[t]?) →
      (∀ j oj, j < n → ops[j]? = some oj → X j = some (zdw a.tmps oj) ∧ Φ j (zdw a.tmps oj) w X) → wpList P ops Q (ops.toList.drop n) a w) :
    ∀ (fuel : Nat) (listed : Array Bool) (a : Act) (w : World) (X : Nat → Option Value), listed.size = ops.size → cntU listed.toList = fuel → GrowInvZ ops n Φ Pre J a0 X listed a w → wpAny P .any ops Q fuel listed a w := by
  have hlt0 := growsZ_lt hg
  have fin : ∀ (fuel : Nat) (listed : Array Bool) (a : Act) (w : World) (X : Nat → Option Value), listed.size = ops.size → cntU listed.toList = fuel → GrowInvZ ops n Φ Pre J a0 X listed a w → (∀ j, j < n → listed[j]? = some true) → wpAny P .any ops Q fuel listed a w := by
    intro fuel listed a w X hsz hc inv hall
    obtain rfl := first_eq hsz hlt0 hall inv.last
    rw [cntU_first] at hc
    have h1 := hend a w X inv.size inv.defers inv.inv inv.free fun j oj hjn hj => ⟨by rw [inv.known j oj hj, if_pos (hall j hjn)], inv.holds j oj hjn hj (hall j hjn)⟩
    have h2 := wpAny_of_seq (md := .any) (Q' := Q) (ops.toList.drop n) n (firstZ n ops.size) a w (fun j => by rw [List.getElem?_drop, Array.getElem?_toList]) hseq h1
    have h3 : (ops.toList.drop n).length = fuel := by rw [List.length_drop, Array.length_toList]; exact hc
    rwa [h3] at h2
  have stuck : ∀ (listed : Array Bool) (a : Act) (w : World) (X : Nat → Option Value), listed.size = ops.size → Region.ready .any ops listed = [] → GrowInvZ ops n Φ Pre J a0 X listed a w → ∀ j, j < n → listed[j]? = some true := by
    intro listed a w X hsz hr inv
    have all : ∀ k i, i < k → i < n → listed[i]? = some true := by
      intro k
      induction k with
      | zero => intro i hi; omega
      | succ k ih =>
        intro i hi hlt
        rcases Nat.lt_or_ge i k with h | h
        · exact ih i h hlt
        · obtain rfl : i = k := by omega
          have hlo : i < ops.size := by omega
          have hl : i < listed.size := by omega
          cases hb : listed[i] with
          | true => rw [Array.getElem?_eq_getElem hl, hb]
          | false =>
            exfalso
            have hm : i ∈ Region.ready .any ops listed := by
              unfold Region.ready
              refine List.mem_filter.2 ⟨List.mem_range.2 hlo, ?_⟩
              have hi : ops[i]? = some ops[i] := Array.getElem?_eq_getElem hlo
              obtain ⟨_, hn, _⟩ := growsZ_at hg hlt hi
              rw [hi]
              simp only [Option.map_some, Option.getD_some, Bool.and_eq_true, Bool.not_eq_true']
              refine ⟨by simp [Array.getD_eq_getD_getElem?, Array.getElem?_eq_getElem hl, hb], Array.all_eq_true'.2 fun e he => ?_⟩
              cases hbd : Region.binds .any e with
              | false => rfl
              | true =>
                have hj := hn e.on (List.mem_map.2 ⟨e, List.mem_filter.2 ⟨by simpa using he, hbd⟩, rfl⟩)
                have := ih e.on hj (by omega)
                simp [Array.getD_eq_getD_getElem?, this]
            rw [hr] at hm
            cases hm
    exact fun j hj => all (j + 1) j (by omega) hj
  intro fuel
  induction fuel with
  | zero =>
    intro listed a w X hsz hc inv
    exfalso
    have h1 := inv.last n (Nat.le_refl _) hlt0
    have h2 := cntU_zero (l := listed.toList) (i := n) (b := false) hc (by rw [Array.getElem?_toList]; exact h1)
    cases h2
  | succ fuel ih =>
    intro listed a w X hsz hc inv
    by_cases hall : ∀ j, j < n → listed[j]? = some true
    · exact fin (fuel + 1) listed a w X hsz hc inv hall
    refine ⟨fun hr => absurd (stuck listed a w X hsz hr inv) hall, fun i hm => ?_⟩
    have hlt : i < ops.size := by
      unfold Region.ready at hm
      exact List.mem_range.1 (List.mem_filter.1 hm).1
    have hi : ops[i]? = some ops[i] := Array.getElem?_eq_getElem hlt
    obtain ⟨h1, h2⟩ := zdl hi hm
    have hl : i < listed.size := by omega
    have hb : listed[i] = false := by simpa [Array.getD_eq_getD_getElem?, Array.getElem?_eq_getElem hl] using h1
    have need : ∀ j ∈ zbm ops[i], listed[j]? = some true := by
      intro j hj
      have h3 := h2 j hj
      rcases Nat.lt_or_ge j listed.size with hjl | hjl
      · rw [Array.getElem?_eq_getElem hjl]
        simp only [Array.getD_eq_getD_getElem?, Array.getElem?_eq_getElem hjl, Option.getD_some] at h3
        rw [h3]
      · simp [Array.getD_eq_getD_getElem?, Array.getElem?_eq_none hjl] at h3
    have hin : i < n := by
      rcases Nat.lt_or_ge i n with hin | hin
      · exact hin
      · exfalso
        rcases Nat.eq_or_lt_of_le hin with h3 | h3
        · subst h3
          exact hall (all_listedZ hg (fun o ho j hj => by rw [hi] at ho; cases ho; exact need j hj) inv.down)
        · have h4 := need n (growsZ_tail hg h3 hi)
          rw [inv.last n (Nat.le_refl _) hlt0] at h4
          cases h4
    obtain ⟨hdu, hne, _⟩ := growsZ_at hg hin hi
    have hXi : X i = none := by rw [inv.known i _ hi, if_neg (by rw [Array.getElem?_eq_getElem hl, hb]; simp)]
    have hs := hstep i ops[i] hin hi a w X inv.size inv.defers inv.inv (inv.pre i (by rw [Array.getElem?_eq_getElem hl, hb])) hXi inv.free fun j oj hj hoj => ⟨by rw [inv.known j oj hoj, if_pos (need j hj)], inv.holds j oj (by have := hne j hj; omega) hoj (need j hj)⟩
    have next : ∀ (v : Value) (w' : World), E i w w' → J w' → Φ i (if ops[i].dst.isSome then v else undef) w' (updX X i (if ops[i].dst.isSome then v else undef)) → wpAny P .any ops Q fuel (listed.setIfInBounds i true) (a.put ops[i].dst v) w' := by
      intro v w' hgr hJ hv
      have hput : ∀ t, (∀ d, ops[i].dst = some d → t ≠ d) → (a.put ops[i].dst v).tmps[t]? = a.tmps[t]? := by
        intro t ht
        cases hd : ops[i].dst with
        | none => rfl
        | some d => exact zfs _ _ (ht d hd)
      have hsv : ∀ j oj, j < n ∨ oj.dst = none ∨ True → j ≠ i → ops[j]? = some oj → (∀ d, ops[i].dst = some d → oj.dst ≠ some d) → zdw (a.put ops[i].dst v).tmps oj = zdw a.tmps oj := by
        intro j oj _ hji hj hne'
        unfold zdw
        cases hdj : oj.dst with
        | none => rfl
        | some dj => exact getD_of (hput dj fun d hd e => hne' d hd (by rw [hdj, e]))
      have hself : zdw (a.put ops[i].dst v).tmps ops[i] = if ops[i].dst.isSome then v else undef := by
        unfold zdw
        cases hd : ops[i].dst with
        | none => rfl
        | some d =>
          simp only
          rw [put_same _ _ (by rw [inv.size]; exact (hdu d hd).1)]
          rfl
      refine ih _ _ _ (updX X i (if ops[i].dst.isSome then v else undef)) (by simp [hsz]) ?_ ⟨?_, ?_, hJ, fun k hk => ?_, fun t ht => ?_, fun j oj hjn hj hlj => ?_, fun j oj hj => ?_, fun k o hk hlk j hj => ?_, fun k hk hks => ?_⟩
      · have := cntU_set (l := listed.toList) (i := i) (by simp [hl, hb])
        simp only [Array.toList_setIfInBounds]
        omega
      · cases hd : ops[i].dst with
        | none => exact inv.size
        | some d => rw [put_size]; exact inv.size
      · cases hd : ops[i].dst with
        | none => exact inv.defers
        | some d => exact inv.defers
      · have hki : k ≠ i := by
          rintro rfl
          rw [Array.getElem?_setIfInBounds_self_of_lt hl] at hk
          cases hk
        rw [Array.getElem?_setIfInBounds_ne (Ne.symm hki)] at hk
        exact hPs k i w w' hki (inv.pre k hk) inv.inv hgr
      · rw [hput t (by
          rintro d hd rfl
          unfold slotZ at ht
          rw [List.any_eq_false] at ht
          have := ht i (List.mem_range.2 hin)
          rw [hi] at this
          simp [hd] at this)]
        exact inv.free t ht
      · by_cases hji : j = i
        · subst hji
          rw [hi] at hj
          cases hj
          rw [hself]
          exact hv
        · rw [hsv j oj (.inl hjn) hji hj fun d hd e => hji ((hdu d hd).2 j oj hjn hj e)]
          rw [Array.getElem?_setIfInBounds_ne (Ne.symm hji)] at hlj
          exact hst j i _ _ _ X _ hji hXi (inv.holds j oj hjn hj hlj) inv.inv hgr
      · by_cases hji : j = i
        · subst hji
          rw [hi] at hj
          cases hj
          rw [hself, Array.getElem?_setIfInBounds_self_of_lt hl, if_pos rfl, updX, if_pos rfl]
        · rw [updX_ne hji, Array.getElem?_setIfInBounds_ne (Ne.symm hji), inv.known j oj hj]
          rcases Nat.lt_or_ge j n with hjn | hjn
          · rw [hsv j oj (.inl hjn) hji hj fun d hd e => hji ((hdu d hd).2 j oj hjn hj e)]
          · rw [inv.last j hjn (Array.getElem?_eq_some_iff.1 hj).1]
            rfl
      · have hj' : listed[j]? = some true := by
          by_cases hki : k = i
          · subst hki
            rw [hi] at hk
            cases hk
            exact need j hj
          · rw [Array.getElem?_setIfInBounds_ne (Ne.symm hki)] at hlk
            exact inv.down k o hk hlk j hj
        by_cases hji : j = i
        · subst hji
          rw [Array.getElem?_setIfInBounds_self_of_lt hl]
        · rw [Array.getElem?_setIfInBounds_ne (Ne.symm hji)]
          exact hj'
      · rw [Array.getElem?_setIfInBounds_ne (by omega)]
        exact inv.last k hk hks
    unfold wpOp
    rw [hi]
    simp only
    split
    · rename_i hw
      rw [if_pos hw] at hs
      exact .inl (Oper.wp_mono (fun a' w' ⟨v, ha, hbw, hJ, hv⟩ => by rw [ha]; exact next v w' hbw hJ hv) hs)
    · rename_i hw
      rw [if_neg hw] at hs
      exact next undef w (hs undef).2 inv.inv (by split <;> exact (hs undef).1)
theorem wp_region_rz {id : Nat} (n : Nat) (Φ : Nat → Value → World → (Nat → Option Value) → Prop) (Pre : Nat → World → Prop) (J : World → Prop) (E : Nat → World → World → Prop) (hm : P.follows .mixedOrders = true) (hJ0 : J w0.drew) (hP0 : ∀ i, Pre i w0.drew)
    (hPs : ∀ i k w w', i ≠ k → Pre i w → J w → E k w w' → Pre i w') (hst : ∀ i k v w w' X u, i ≠ k → X k = none → Φ i v w X → J w → E k w w' → Φ i v w' (updX X k u)) (hg : growsZ ops n a0.tmps.size = true)
    (hseq : Region.seqB .any ops (ops.toList.drop n).length n (firstZ n ops.size) = true)
    (hstep : ∀ i o, i < n → ops[i]? = some o → ∀ (a : Act) (w : World) (X : Nat → Option Value), a.tmps.size = a0.tmps.size → a.defers = a0.defers → J w → Pre i w → X i = none → (∀ t, slotZ ops n t = false → a.tmps[t]? = a0.tmps[t]?) →
      (∀ j oj, j ∈ zbm o → ops[j]? = some oj → X j = some (zdw a.tmps oj) ∧ Φ j (zdw a.tmps oj) w X) →
      if Region.wanted o (yielded ops a.tmps) = true then o.wp P a w (fun a' w' => ∃ v, a' = a.put o.dst v ∧ E i w w' ∧ J w' ∧ Φ i (if o.dst.isSome then v else undef) w' (updX X i (if o.dst.isSome then v else undef))) Q else ∀ u, Φ i u w (updX X i u) ∧ E i w w)
    (hend : ∀ (a : Act) (w : World) (X : Nat → Option Value), a.tmps.size = a0.tmps.size → a.defers = a0.defers → J w → (∀ t, slotZ ops n t = false → a.tmps[t]? = a0.tmps[t]?) →
      (∀ j oj, j < n → ops[j]? = some oj → X j = some (zdw a.tmps oj) ∧ Φ j (zdw a.tmps oj) w X) → wpList P ops Q (ops.toList.drop n) a w) :
    (Code.region id ops true).wp P Q a0 w0 := by
  have hlt0 := growsZ_lt hg
  refine wp_region_any hm (wpAny_rz hPs hst hg hseq hstep hend _ _ _ _ (fun _ => none) (by simp) (by simp [zdd]) ⟨rfl, rfl, hJ0, fun i _ => hP0 i, fun _ _ => rfl, fun j oj hjn hj hlj => ?_, fun j oj hj => ?_, fun i o hi hl => ?_, fun k hk hks => ?_⟩)
  · rw [Array.getElem?_replicate] at hlj
    split at hlj <;> cases hlj
  · rw [if_neg]
    rw [Array.getElem?_replicate]
    split <;> simp
  · rw [Array.getElem?_replicate] at hl
    split at hl <;> cases hl
  · rw [Array.getElem?_replicate, if_pos hks]
end
theorem zas {P : Program} {o : Oper} {a : Act} {w : World} {J : World → Prop} {E : World → Prop} {Φ : Value → World → (Nat → Option Value) → Prop} {X : Nat → Option Value} {i : Nat} {Q : Exit → Act → World → Prop}
    (h : ∀ K : Act → World → Prop, (∀ v w', E w' → J w' → Φ (if o.dst.isSome then v else undef) w' (updX X i (if o.dst.isSome then v else undef)) → K (a.put o.dst v) w') → o.wp P a w K Q) :
    o.wp P a w (fun a' w' => ∃ v, a' = a.put o.dst v ∧ E w' ∧ J w' ∧ Φ (if o.dst.isSome then v else undef) w' (updX X i (if o.dst.isSome then v else undef))) Q :=
  h _ fun v w' hb hJ hv => ⟨v, rfl, hb, hJ, hv⟩
end Go.Proofs.YtblpaocignlpkaaDoor
