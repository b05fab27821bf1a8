/-
  Lists of ints in memory, and those that came in.
-/
import Derived.Test.YtjkgdggkgljdoaaDoorVinv10
import Derived.Test.YtjkgdggkgljdoaaDoorVinv01
import Derived.Test.YtjkgdggkgljdoaaDoorChecked
import Derived.WalkKit
import Derived.Test.YtjkgdggkgljdoaaDoorVinv09
import Derived.OrdersHeld
import Derived.Below
import Derived.StillTail
import Derived.Maps.AppendAt
namespace Go.Proofs.YtjkgdggkgljdoaaDoor
open Go.RowKit Go.WideShapes Go.ChangeShapes Go.Deep
set_option linter.unusedVariables false
def In64 (n : Int) : Prop := -9223372036854775808 ≤ n ∧ n ≤ 9223372036854775807
theorem in64_of {n : Int} (h : (Lit.int .i64 n).wf = true) : In64 n := by
  rw [Lit.wf, Bool.and_eq_true, decide_eq_true_eq, decide_eq_true_eq] at h
  exact h
def IsIL (w : World) (S : Nat → Prop) (v : Value) (l : List Int) : Prop :=
  ∃ A c, v = .slice A l.length c ∧ l.length ≤ c ∧ c ≤ maxLen ∧ SVS w S A (l.map fun x => .int .i64 x) ∧ ∀ x ∈ l, In64 x
theorem IsIL.stb : Stb IsIL := by
  rintro w w' S T v l ⟨A, c, hv, h1, h2, h3, h4⟩ hs
  exact ⟨A, c, hv, h1, h2, h3.same hs, h4⟩
theorem isIL_get {w : World} {S : Nat → Prop} {A : Option Addr} {n c : Nat} {l : List Int} (h : IsIL w S (.slice A n c) l) {j : Nat} {x : Int} (hj : l[j]? = some x) :
    In64 x ∧ ∃ b off, A = some ⟨b, off, none⟩ ∧ S b ∧ w.cell? ⟨b, off + j, none⟩ = some (.int .i64 x) := by
  obtain ⟨A', c', hv, h1, h2, h3, h4⟩ := h
  simp only [Value.slice.injEq] at hv
  obtain ⟨rfl, rfl, rfl⟩ := hv
  have hlt := (List.getElem?_eq_some_iff.1 hj).1
  obtain ⟨b, off, hA, hb, hc⟩ := h3 (fun e => by have := congrArg List.length e; simp at this; rw [this] at hlt; simp at hlt)
  exact ⟨h4 x (List.mem_of_getElem? hj), b, off, hA, hb, hc j _ (by rw [List.getElem?_map, hj]; rfl)⟩
section
variable {H : Type} {enc : TypeId × Value → H} {w : World} {base base0 : Nat} {sp : Nat → Bool} {held : Bool}
set_option maxRecDepth 100000 in
theorem open_int_list {v : Value} {d : DataW H} {ps : List MemPlace} (hlt : ∀ x ∈ ps, x.block < w.heap.size) (hval : Value.okWide Tryd.prog w .any base0 22 v) (h : DataW.Trod enc Tryd.prog w base sp held 22 v d ps) : ∃ l : List Int, IsIL w (Old w) v l := by
  obtain ⟨a, len, cap, rfl⟩ := okWide_slice Tryd.underlying22 hval
  obtain ⟨fuel, hf⟩ := h
  rcases open_ints Tryd.underlying22 Tryd.underlying3 (by kernel_rfl) hf with ⟨hv, _⟩ | ⟨a, len, cap, zs, hv, _, hl, hm, hz, hx, hcell, hwz⟩
  · simp only [Value.cells, List.cons.injEq, and_true] at hv
    rw [hv]
    exact ⟨[], none, 0, rfl, Nat.le_refl _, Nat.zero_le _, SVS.nil, fun x hx => by cases hx⟩
  · simp only [Value.cells, List.cons.injEq, and_true] at hv
    rw [hv]
    have hlz : len ≤ zs.length := by rw [hz]; split <;> omega
    have hlen : (zs.take len).length = len := by simp; omega
    refine ⟨zs.take len, some a, cap, by rw [hlen], by rw [hlen]; exact hl, hm, fun hne => ?_, fun x hx => in64_of (hwz x (List.mem_of_mem_take hx))⟩
    have hpos : 0 < zs.length := by
      rcases Nat.eq_zero_or_pos zs.length with h0 | h0
      · exact absurd (by rw [List.length_eq_zero_iff.1 h0]; simp) hne
      · exact h0
    obtain ⟨b, off, rfl, hcc⟩ := ints_at hcell hpos
    refine ⟨b, off, rfl, World.block_lt_of_cell? w _ (hcc 0 hpos), fun j u hu => ?_⟩
    rw [List.getElem?_map, List.getElem?_take] at hu
    split at hu
    case isFalse => simp at hu
    case isTrue hj =>
      have hjz : j < zs.length := by omega
      rw [List.getElem?_eq_getElem hjz] at hu
      simp only [Option.map_some, Option.some.injEq] at hu
      subst hu
      rw [hcc j hjz, List.getD_eq_getElem?_getD, List.getElem?_eq_getElem hjz, Option.getD_some]
end
end Go.Proofs.YtjkgdggkgljdoaaDoor
namespace Go.Proofs.YtjkgdggkgljdoaaDoor
open Go.RowKit
set_option linter.unusedVariables false
set_option maxHeartbeats 400000 in
theorem mod_n (w : World) (a n : Int) (h0 : -9223372036854775808 ≤ a) (h9 : a ≤ 9223372036854775807) (hn : 1 ≤ n) (hn1 : n ≤ 1000000000) :
    Calls Tryd.prog 9 #[.int .i64 a, .int .i64 n] w fun e w' => e = .returned (.int .i64 (a % n)) ∧ w = w' := by
  have e0 := Int.emod_nonneg a (show n ≠ 0 by omega)
  have e1 := Int.emod_lt_of_pos a (show 0 < n by omega)
  have ht : (a.tmod n = a % n ∧ (a < 0 → a % n = 0)) ∨ a.tmod n = a % n - n := by
    rw [Int.tmod_eq_emod]
    split
    · rename_i hd
      refine .inl ⟨by omega, fun hneg => ?_⟩
      rcases hd with hd | hd
      · omega
      · exact Int.emod_eq_zero_of_dvd hd
    · exact .inr (by omega)
  rcases Int.lt_or_le a 0 with h | h
  · have hne : (n == 0) = false := beq_eq_false_iff_ne.2 (by omega)
    rcases Int.lt_or_le (a.tmod n) 0 with h2 | h2
    · have hm : Hid (a.tmod n + n = a % n) := by unfold Hid; rcases ht with ⟨h3, h4⟩ | h3 <;> omega
      have hb : -1000000000 ≤ a.tmod n := by have := hm.out; omega
      clear ht
      go_enter Tryd.func9, Tryd.ntmps9
      go_wp2
      go_ret
      exact ⟨zbb hm.out, rfl⟩
    · have hm : Hid (a.tmod n = a % n) := by unfold Hid; rcases ht with ⟨h3, h4⟩ | h3 <;> omega
      clear ht
      go_enter Tryd.func9, Tryd.ntmps9
      go_wp2
      go_ret
      exact ⟨zbb hm.out, rfl⟩
  · clear ht
    go_enter Tryd.func9, Tryd.ntmps9
    go_wp2
    go_ret
    exact ⟨rfl, rfl⟩
def IsD (w : World) (g : Nat) (l : List Int) : Prop :=
  ∃ A c k, Row w g 25 [.slice A l.length c, .int .i64 ((k : Nat) : Int)] ∧ IsIL w (fun b => b < g) (.slice A l.length c) l ∧ k ≤ l.length
theorem IsD.lt {w : World} {g : Nat} {l : List Int} (h : IsD w g l) : g < w.heap.size := by
  obtain ⟨A, c, k, h1, _⟩ := h
  exact h1.lt
theorem IsD.next {w w' : World} {g B : Nat} {l : List Int} (h : IsD w g l) (hb : Below B w w') (hg : g < B) : IsD w' g l := by
  obtain ⟨A, c, k, h1, h2, h3⟩ := h
  exact ⟨A, c, k, h1.below hb hg, IsIL.stb.to h2 (same_below hb fun b h => Nat.lt_trans h hg), h3⟩
theorem IsD.grown {w w' : World} {g r : Nat} {l : List Int} (h : IsD w g l) (hb : w.grownBy w' (some r)) (hr : g < r) : IsD w' g l := by
  have hl := h.lt
  obtain ⟨A, c, k, h1, h2, h3⟩ := h
  exact ⟨A, c, k, h1.grown hb (fun e => by cases e; omega), IsIL.stb.to h2 (same_grown hb fun b hb' => ⟨by omega, by omega⟩), h3⟩
theorem IsD.far {w : World} {g : Nat} {l : List Int} (h : IsD w g l) {p : Addr} (hp : g < p.block) (u : Value) : IsD (w.setCell p u) g l := by
  obtain ⟨A, c, k, h1, h2, h3⟩ := h
  refine ⟨A, c, k, h1.far (by omega) u, IsIL.stb.to h2 fun b hb => ⟨hb, fun o => ?_⟩, h3⟩
  rw [World.cell?_setCell_other _ _ _ _ (fun e => by rw [e] at hp; simp at hp; omega)]
theorem Only.grown {g : Nat} {a b : World} (h : Only g a b) : a.grownBy b (some g) := ⟨h.os, h.tape, h.output, Nat.le_of_eq h.size.symm, fun k hk hr => h.block k (fun e => hr (by rw [e]))⟩
def Drew (n : Nat) (e : Ending) : Prop := ∃ x : Nat, x < n ∧ e = .returned (.int .i64 (x : Int))
set_option maxRecDepth 100000 in
set_option maxHeartbeats 1000000 in
theorem next_l {w : World} {g : Nat} {l : List Int} (h : IsD w g l) {n : Nat} (hn : 1 ≤ n) (hn1 : n ≤ 1000000) :
    Calls Tryd.prog 50 #[.pointer (some ⟨g, 0, none⟩), .int .i64 (n : Int)] w fun e w' => Drew n e ∧ IsD w' g l ∧ Only g w w' := by
  obtain ⟨A, c, k, hr, hl, hk⟩ := id h
  have HR := Lib.hid hr
  have HL := Lib.hid hl
  have HD := Lib.hid h
  have c0 := hr.cell 0
  have c1 := hr.cell 1
  have f1 := hr.frozen 1
  have hlm : l.length ≤ maxLen := by obtain ⟨_, _, hv, h1, h2, _⟩ := hl; omega
  unfold maxLen at hlm
  simp at c0 c1
  have hg := hr.lt
  obtain ⟨m, hm⟩ : ∃ m, m = l.length := ⟨_, rfl⟩
  have Hm := Lib.hid hm
  have t2 : decide ((n : Int) < 1) = false := by simp; omega
  rcases Nat.lt_or_ge k l.length with hlt | hge
  · obtain ⟨x, hx⟩ : ∃ x, l[k]? = some x := ⟨_, List.getElem?_eq_getElem hlt⟩
    obtain ⟨h64, b, off, rfl, hbg, hc⟩ := isIL_get hl hx
    have Hc := Lib.hid hc
    rw [← hm] at c0 hlt hlm hk
    have t1 : decide (m ≤ k) = false := by simp; omega
    have H64 := Lib.hid h64
    clear h hr hl hx hc hm h64
    go_enter Tryd.func50, Tryd.ntmps50
    go_wp2_with fail
    go_quiet (fail)
    obtain ⟨w1, hw1⟩ : ∃ w1, w1 = w.drewN nq := ⟨_, rfl⟩
    have e0 : w1.cell? ⟨g, 0, none⟩ = some (.slice (some ⟨b, off, none⟩) m c) := by rw [hw1]; exact c0
    have e1 : w1.cell? ⟨g, 1, none⟩ = some (.int .i64 (k : Int)) := by rw [hw1]; exact c1
    have e2 : w1.frozen? ⟨g, 1, none⟩ = false := by rw [hw1]; exact f1
    have HC1 : Hid (w1.cell? ⟨b, off + k, none⟩ = some (.int .i64 x)) := by rw [hw1]; exact Hc.out
    have HR1 : Hid (Row w1 g 25 [.slice (some ⟨b, off, none⟩) m c, .int .i64 (k : Int)]) := by rw [hw1, Hm.out]; exact HR.out.drewN nq
    have HO1 : Hid (Only g w w1) := by rw [hw1]; exact (Only.refl g w).drewN nq
    rw [← hw1]
    clear c0 c1 f1 hw1
    go_wp2_with fail
    obtain ⟨w2, hw2⟩ : ∃ w2, w2 = w1.setCell ⟨g, 1, none⟩ (.int .i64 ((k : Int) + 1)) := ⟨_, rfl⟩
    have HR2 : Hid (Row w2 g 25 [.slice (some ⟨b, off, none⟩) m c, .int .i64 ((k : Int) + 1)]) := by rw [hw2]; exact HR1.out.set_ 1 _
    have HO2 : Hid (Only g w w2) := by rw [hw2]; exact HO1.out.setCell 1 _
    have d0 := HR2.out.cell 0
    have d1 := HR2.out.cell 1
    have d2 : w2.cell? ⟨b, off + k, none⟩ = some (.int .i64 x) := by
      rw [hw2, World.cell?_setCell_other _ _ _ _ (fun e => by injection e with h1 h2; omega)]
      exact HC1.out
    simp at d0 d1
    have e3 : IntKind.i64.wrap (k : Int) = (k : Int) := IntWalk.i64_in _ (by omega)
    have e4 : (k : Int).toNat = k := by omega
    have hk0 : (0 : Int) ≤ (k : Int) := by omega
    have hk1 : (k : Int) < (m : Int) := by omega
    rw [← hw2]
    clear hw2 e0 e1 e2
    go_quiet ((go_at_call 9; exact Calls.quiet_of_same ((mod_n _ x (n : Int) H64.out.1 H64.out.2 (by omega) (by omega)).mono fun e w' h => ⟨h.1, h.2.symm⟩)))
    obtain ⟨w3, hw3⟩ : ∃ w3, w3 = w2.drewN nq := ⟨_, rfl⟩
    have HR3 : Hid (Row w3 g 25 [.slice (some ⟨b, off, none⟩) m c, .int .i64 ((k : Int) + 1)]) := by rw [hw3]; exact HR2.out.drewN nq
    have HO3 : Hid (Only g w w3) := by rw [hw3]; exact HO2.out.drewN nq
    have m0 := Int.emod_nonneg x (show (n : Int) ≠ 0 by omega)
    have m1 := Int.emod_lt_of_pos x (show (0 : Int) < n by omega)
    rw [← hw3]
    clear hw3
    go_wp2_with fail
    go_ret
    refine ⟨⟨(x % (n : Int)).toNat, by omega, zbb (by omega)⟩, ⟨some ⟨b, off, none⟩, c, k + 1, by rw [← Hm.out]; exact HR3.out, ?_, by rw [← Hm.out]; omega⟩, HO3.out⟩
    exact IsIL.stb.to HL.out fun b hb => ⟨hb, fun o => World.cell?_of_block (HO3.out.block b (by have : b < g := hb; omega))⟩
  · have hkm : k = m := by omega
    rw [← hm] at c0
    have t1 : decide (m ≤ k) = true := by simp; omega
    clear h hr hl hm
    go_enter Tryd.func50, Tryd.ntmps50
    go_wp2_with fail
    go_quiet (fail)
    go_wp2_with fail
    go_ret
    exact ⟨⟨0, by omega, rfl⟩, HD.out.next (Dr.below ⟨nq, rfl⟩ _) hg, (Only.refl g w).drewN nq⟩
theorem next_i {w : World} {g : Nat} {l : List Int} (h : IsD w g l) (n : Int) (hn : 1 ≤ n) (hn1 : n ≤ 1000000) :
    Calls Tryd.prog 50 #[.pointer (some ⟨g, 0, none⟩), .int .i64 n] w fun e w' => (∃ x : Int, 0 ≤ x ∧ x < n ∧ e = .returned (.int .i64 x)) ∧ IsD w' g l ∧ Only g w w' := by
  have e : n = ((n.toNat : Nat) : Int) := by omega
  rw [e]
  exact (next_l h (n := n.toNat) (by omega) (by omega)).mono fun e w' ⟨⟨x, hx, he⟩, h1, h2⟩ => ⟨⟨x, by omega, by omega, he⟩, h1, h2⟩
def cntU : List Bool → Nat
  | [] => 0
  | b :: l => (if b then 0 else 1) + cntU l
theorem cntU_set : ∀ {l : List Bool} {i : Nat}, l[i]? = some false → cntU (l.set i true) + 1 = cntU l
  | b :: l, 0, h => by simp at h; subst h; simp [cntU]; omega
  | b :: l, i + 1, h => by
    have := cntU_set (l := l) (i := i) (by simpa using h)
    simp only [List.set_cons_succ, cntU]
    omega
theorem cntU_zero : ∀ {l : List Bool} {i : Nat} {b : Bool}, cntU l = 0 → l[i]? = some b → b = true
  | c :: l, 0, b, h, hb => by
    simp at hb
    subst hb
    cases c
    · simp [cntU] at h
    · rfl
  | c :: l, i + 1, b, h, hb => by
    refine cntU_zero (l := l) (i := i) ?_ (by simpa using hb)
    simp only [cntU] at h
    omega
theorem zee (n : Nat) : cntU (List.replicate n false) = n := by
  induction n with
  | zero => rfl
  | succ n ih => rw [List.replicate_succ, cntU, ih]; simp; omega
def zcn (o : Oper) : List Nat := (o.after.toList.filter (Region.binds .any)).map (·.on)
def slotOf (ops : Array Oper) (t : Nat) : Bool := ops.toList.any fun o => o.dst == some t
def growsB (ops : Array Oper) (n : Nat) : Bool :=
  (List.range ops.size).all fun i => (ops[i]?).any fun o =>
    (o.dst.any fun d => decide (d < n) && (List.range ops.size).all fun j => decide (j = i) || !((ops[j]?).any fun oj => oj.dst == some d)) && (zcn o).all fun j => decide (j < i)
section
variable {P : Program} {ops : Array Oper} {Q : Exit → Act → World → Prop} {Φ : Nat → Value → World → Prop} {a0 : Act} {w0 : World}
theorem growsB_at {n i : Nat} {o : Oper} (h : growsB ops n = true) (hi : ops[i]? = some o) :
    ∃ d, o.dst = some d ∧ d < n ∧ (∀ j oj, ops[j]? = some oj → oj.dst = some d → j = i) ∧ ∀ j ∈ zcn o, j < i := by
  unfold growsB at h
  have hlt : i < ops.size := (Array.getElem?_eq_some_iff.1 hi).1
  have h1 := List.all_eq_true.1 h i (List.mem_range.2 hlt)
  rw [hi] at h1
  simp only [Option.any_some, Bool.and_eq_true] at h1
  obtain ⟨h2, h3⟩ := h1
  cases hd : o.dst with
  | none => rw [hd] at h2; simp at h2
  | some d =>
    rw [hd] at h2
    simp only [Option.any_some, Bool.and_eq_true, decide_eq_true_eq] at h2
    refine ⟨d, rfl, h2.1, fun j oj hj hoj => ?_, fun j hj => by simpa using List.all_eq_true.1 h3 j hj⟩
    have hjl : j < ops.size := (Array.getElem?_eq_some_iff.1 hj).1
    have h4 := List.all_eq_true.1 h2.2 j (List.mem_range.2 hjl)
    rw [hj] at h4
    simp only [Option.any_some, hoj, beq_self_eq_true, Bool.not_true, Bool.or_false, decide_eq_true_eq] at h4
    exact h4
structure GrowInv (ops : Array Oper) (Φ : Nat → Value → World → Prop) (a0 : Act) (w0 : World) (listed : Array Bool) (a : Act) (w : World) : Prop where
  size : a.tmps.size = a0.tmps.size
  defers : a.defers = a0.defers
  below : Below w0.heap.size w0 w
  free : ∀ t, slotOf ops t = false → a.tmps[t]? = a0.tmps[t]?
  holds : ∀ j oj d, ops[j]? = some oj → listed[j]? = some true → oj.dst = some d → Φ j (a.tmps.getD d undef) w
theorem put_size (a : Act) (d : Tmp) (v : Value) : (a.put (some d) v).tmps.size = a.tmps.size := by simp [Act.put]
theorem put_other (a : Act) {d t : Nat} (v : Value) (h : t ≠ d) : (a.put (some d) v).tmps[t]? = a.tmps[t]? := by
  simp only [Act.put]
  rw [Array.getElem?_setIfInBounds_ne (Ne.symm h)]
theorem put_same (a : Act) {d : Nat} (v : Value) (h : d < a.tmps.size) : (a.put (some d) v).tmps.getD d undef = v := by
  simp [Act.put, h]
theorem getD_of {a b : Array Value} {t : Nat} (h : a[t]? = b[t]?) : a.getD t undef = b.getD t undef := by
  simp only [Array.getD_eq_getD_getElem?, h]
theorem ready_needs {listed : Array Bool} {i : Nat} {o : Oper} (hi : ops[i]? = some o) (hr : i ∈ Region.ready .any ops listed) : listed.getD i true = false ∧ ∀ j ∈ zcn o, listed.getD j false = true := by
  unfold Region.ready at hr
  have h1 := (List.mem_filter.1 hr).2
  rw [hi] at h1
  simp only [Option.map_some, Option.getD_some, Bool.and_eq_true, Bool.not_eq_true'] at h1
  refine ⟨h1.1, fun j hj => ?_⟩
  obtain ⟨e, he, rfl⟩ := List.mem_map.1 hj
  obtain ⟨he, hb⟩ := List.mem_filter.1 he
  have h2 := (Array.all_eq_true'.1 h1.2) e (by simpa using he)
  rw [hb] at h2
  simpa using h2
theorem wpAny_grow (hst : ∀ i v w w', Φ i v w → Below w.heap.size w w' → Φ i v w') (hg : growsB ops a0.tmps.size = true)
    (hstep : ∀ i o, ops[i]? = some o → ∀ (a : Act) (w : World), a.tmps.size = a0.tmps.size → a.defers = a0.defers → Below w0.heap.size w0 w → (∀ t, slotOf ops t = false → a.tmps[t]? = a0.tmps[t]?) →
      (∀ j oj d, j ∈ zcn o → ops[j]? = some oj → oj.dst = some d → Φ j (a.tmps.getD d undef) w) →
      if Region.wanted o (yielded ops a.tmps) = true then o.wp P a w (fun a' w' => ∃ v, a' = a.put o.dst v ∧ Below w.heap.size w w' ∧ Φ i v w') Q else Φ i undef w)
    (hend : ∀ (a : Act) (w : World), a.tmps.size = a0.tmps.size → a.defers = a0.defers → Below w0.heap.size w0 w → (∀ t, slotOf ops t = false → a.tmps[t]? = a0.tmps[t]?) →
      (∀ j oj d, ops[j]? = some oj → oj.dst = some d → Φ j (a.tmps.getD d undef) w) → Q .normal a w) :
    ∀ (fuel : Nat) (listed : Array Bool) (a : Act) (w : World), listed.size = ops.size → cntU listed.toList ≤ fuel → GrowInv ops Φ a0 w0 listed a w → wpAny P .any ops Q fuel listed a w := by
  have done : ∀ (listed : Array Bool) (a : Act) (w : World), listed.size = ops.size → Region.ready .any ops listed = [] → GrowInv ops Φ a0 w0 listed a w → Q .normal a w := by
    intro listed a w hsz hr inv
    have all : ∀ n i, i < n → i < ops.size → listed[i]? = some true := by
      intro n
      induction n with
      | zero => intro i hi; omega
      | succ n ih =>
        intro i hi hlt
        rcases Nat.lt_or_ge i n with h | h
        · exact ih i h hlt
        · obtain rfl : i = n := by omega
          have hl : i < listed.size := by omega
          cases hb : listed[i] with
          | true => rw [Array.getElem?_eq_getElem hl, hb]
          | false =>
            exfalso
            have hm : i ∈ Region.ready .any ops listed := by
              unfold Region.ready
              refine List.mem_filter.2 ⟨List.mem_range.2 hlt, ?_⟩
              have hi : ops[i]? = some ops[i] := Array.getElem?_eq_getElem hlt
              obtain ⟨d, hd, _, _, hn⟩ := growsB_at hg hi
              rw [hi]
              simp only [Option.map_some, Option.getD_some, Bool.and_eq_true, Bool.not_eq_true']
              refine ⟨by simp [Array.getD_eq_getD_getElem?, Array.getElem?_eq_getElem hl, hb], Array.all_eq_true'.2 fun e he => ?_⟩
              cases hbd : Region.binds .any e with
              | false => rfl
              | true =>
                have hj := hn e.on (List.mem_map.2 ⟨e, List.mem_filter.2 ⟨by simpa using he, hbd⟩, rfl⟩)
                have := ih e.on hj (by omega)
                simp [Array.getD_eq_getD_getElem?, this]
            rw [hr] at hm
            cases hm
    exact hend a w inv.size inv.defers inv.below inv.free fun j oj d hj hd => inv.holds j oj d hj (all (j + 1) j (by omega) (Array.getElem?_eq_some_iff.1 hj).1) hd
  intro fuel
  induction fuel with
  | zero =>
    intro listed a w hsz hc inv
    have hr : Region.ready .any ops listed = [] := by
      cases hr : Region.ready .any ops listed with
      | nil => rfl
      | cons i l =>
        exfalso
        have hm : i ∈ Region.ready .any ops listed := by rw [hr]; simp
        have hlt : i < ops.size := by
          unfold Region.ready at hm
          exact List.mem_range.1 (List.mem_filter.1 hm).1
        have h1 := (ready_needs (Array.getElem?_eq_getElem hlt) hm).1
        have hl : i < listed.size := by omega
        have h2 := cntU_zero (l := listed.toList) (i := i) (b := listed[i]) (by omega) (by simp [hl])
        simp [Array.getD_eq_getD_getElem?, Array.getElem?_eq_getElem hl, h2] at h1
    exact ⟨hr, done listed a w hsz hr inv⟩
  | succ fuel ih =>
    intro listed a w hsz hc inv
    refine ⟨fun hr => done listed a w hsz hr inv, fun i hm => ?_⟩
    have hlt : i < ops.size := by
      unfold Region.ready at hm
      exact List.mem_range.1 (List.mem_filter.1 hm).1
    have hi : ops[i]? = some ops[i] := Array.getElem?_eq_getElem hlt
    obtain ⟨h1, h2⟩ := ready_needs hi hm
    have hl : i < listed.size := by omega
    have hb : listed[i] = false := by simpa [Array.getD_eq_getD_getElem?, Array.getElem?_eq_getElem hl] using h1
    obtain ⟨d, hd, hdn, hdu, _⟩ := growsB_at hg hi
    have hs := hstep i ops[i] hi a w inv.size inv.defers inv.below inv.free fun j oj dj hj hoj hdj => inv.holds j oj dj hoj (by
      have h3 := h2 j hj
      have hjl : j < listed.size := by
        have := (Array.getElem?_eq_some_iff.1 hoj).1
        omega
      rw [Array.getElem?_eq_getElem hjl]
      simp only [Array.getD_eq_getD_getElem?, Array.getElem?_eq_getElem hjl, Option.getD_some] at h3
      rw [h3]) hdj
    have next : ∀ (v : Value) (w' : World), Below w.heap.size w w' → Φ i v w' → wpAny P .any ops Q fuel (listed.setIfInBounds i true) (a.put ops[i].dst v) w' := by
      intro v w' hbw hv
      rw [hd]
      refine ih _ _ _ (by simp [hsz]) ?_ ⟨by rw [put_size]; exact inv.size, inv.defers, inv.below.trans (hbw.mono inv.below.size), fun t ht => ?_, fun j oj dj hj hlj hdj => ?_⟩
      · have := cntU_set (l := listed.toList) (i := i) (by simp [hl, hb])
        simp only [Array.toList_setIfInBounds]
        omega
      · rw [put_other _ _ (by
          rintro rfl
          unfold slotOf at ht
          rw [List.any_eq_false] at ht
          exact ht ops[i] (by simp) (by rw [hd]; simp))]
        exact inv.free t ht
      · by_cases hji : j = i
        · subst hji
          rw [hi] at hj
          cases hj
          rw [hd] at hdj
          cases hdj
          rw [put_same _ _ (by rw [inv.size]; exact hdn)]
          exact hv
        · have hne : dj ≠ d := fun e => hji (hdu j oj hj (by rw [hdj, e]))
          rw [getD_of (put_other a v hne)]
          refine hst _ _ _ _ (inv.holds j oj dj hj ?_ hdj) hbw
          rwa [Array.getElem?_setIfInBounds_ne (Ne.symm hji)] at hlj
    unfold wpOp
    rw [hi]
    simp only
    split
    · rename_i hw
      rw [if_pos hw] at hs
      exact .inl (Oper.wp_mono (fun a' w' ⟨v, ha, hbw, hv⟩ => by rw [ha]; exact next v w' hbw hv) hs)
    · rename_i hw
      rw [if_neg hw] at hs
      exact next undef w (Below.refl _ _) hs
theorem wp_region_grow {id : Nat} (Φ : Nat → Value → World → Prop) (hm : P.follows .mixedOrders = true) (hst : ∀ i v w w', Φ i v w → Below w.heap.size w w' → Φ i v w') (hg : growsB ops a0.tmps.size = true)
    (hstep : ∀ i o, ops[i]? = some o → ∀ (a : Act) (w : World), a.tmps.size = a0.tmps.size → a.defers = a0.defers → Below w0.heap.size w0 w → (∀ t, slotOf ops t = false → a.tmps[t]? = a0.tmps[t]?) →
      (∀ j oj d, j ∈ zcn o → ops[j]? = some oj → oj.dst = some d → Φ j (a.tmps.getD d undef) w) →
      if Region.wanted o (yielded ops a.tmps) = true then o.wp P a w (fun a' w' => ∃ v, a' = a.put o.dst v ∧ Below w.heap.size w w' ∧ Φ i v w') Q else Φ i undef w)
    (hend : ∀ (a : Act) (w : World), a.tmps.size = a0.tmps.size → a.defers = a0.defers → Below w0.heap.size w0 w → (∀ t, slotOf ops t = false → a.tmps[t]? = a0.tmps[t]?) →
      (∀ j oj d, ops[j]? = some oj → oj.dst = some d → Φ j (a.tmps.getD d undef) w) → Q .normal a w) :
    (Code.region id ops true).wp P Q a0 w0 := by
  refine wp_region_any hm (wpAny_grow hst hg hstep hend _ _ _ _ (by simp) (by simp [zee]) ⟨rfl, rfl, ⟨rfl, rfl, rfl, Nat.le_refl _, fun _ _ => rfl⟩, fun _ _ => rfl, fun j oj d hj hlj hd => ?_⟩)
  rw [Array.getElem?_replicate] at hlj
  split at hlj <;> cases hlj
end
section
variable {P : Program} {ops : Array Oper} {Q : Exit → Act → World → Prop} {Φ : Nat → Value → World → Prop} {a0 : Act} {w0 : World} {n : Nat}
end
theorem zan {T : Array Value} {t : Nat} {v : Value} (h : t < T.size) (hv : T.getD t undef = v) : T[t]? = some v := by
  rw [Array.getElem?_eq_getElem h]
  simp only [Array.getD_eq_getD_getElem?, Array.getElem?_eq_getElem h, Option.getD_some] at hv
  rw [hv]
theorem zci {T : Array Value} {t : Nat} (h : t < T.size) : ∃ v, T[t]? = some v ∧ T.getD t undef = v := ⟨_, zan h rfl, rfl⟩
theorem grow_on {o oj : Oper} {ops : Array Oper} {T : Array Value} {j d : Nat} {want : Bool} {A B : Prop} (hg : o.guard = some (j, want)) (hj : ops[j]? = some oj) (hd : oj.dst = some d) (hT : T[d]? = some (.bool want)) (h : A) :
    if Region.wanted o (yielded ops T) = true then A else B := by
  rw [if_pos (by simp [Region.wanted, yielded, hg, hj, hd, hT])]
  exact h
theorem grow_off {o oj : Oper} {ops : Array Oper} {T : Array Value} {j d : Nat} {want b : Bool} {A B : Prop} (hg : o.guard = some (j, want)) (hj : ops[j]? = some oj) (hd : oj.dst = some d) (hT : T[d]? = some (.bool b)) (hne : b ≠ want) (h : B) :
    if Region.wanted o (yielded ops T) = true then A else B := by
  rw [if_neg (by simp [Region.wanted, yielded, hg, hj, hd, hT]; exact hne)]
  exact h
theorem zaj {o : Oper} {ops : Array Oper} {T : Array Value} {A B : Prop} (hg : o.guard = none) (h : A) :
    if Region.wanted o (yielded ops T) = true then A else B := by
  rw [if_pos (by simp [Region.wanted, hg])]
  exact h
theorem region_abs {P : Program} {id : Nat} {lit : Array Oper} {d : Bool} {Q : Exit → Act → World → Prop} {a : Act} {w : World} (h : ∀ ops, ops = lit → (Code.region id ops d).wp P Q a w) : (Code.region id lit d).wp P Q a w := h lit rfl
theorem zax {ops lit : Array Oper} {j : Nat} {o : Oper} (h : ops = lit) (ho : lit[j]? = some o) : ops[j]? = some o := by rw [h]; exact ho
theorem slot_abs {ops lit : Array Oper} (h : ops = lit) (t : Nat) (hs : slotOf lit t = false) : slotOf ops t = false := by rw [h]; exact hs
theorem odt {p : Prop} [Decidable p] (h : decide p = true) : p := of_decide_eq_true h
theorem zbk {o oj : Oper} {ops : Array Oper} {T : Array Value} {j d : Nat} {want C : Bool} {A B : Prop} (hg : o.guard = some (j, want)) (hj : ops[j]? = some oj) (hd : oj.dst = some d) (hT : T.getD d undef = .bool C) (hs : d < T.size)
    (hon : C = want → T[d]? = some (.bool want) → A) (hoff : C = !want → B) : if Region.wanted o (yielded ops T) = true then A else B := by
  have e := zan hs hT
  by_cases hc : C = want
  · subst hc
    exact grow_on hg hj hd e (hon rfl e)
  · exact grow_off hg hj hd e hc (hoff (by cases C <;> cases want <;> simp_all))
theorem zaw {P : Program} {o : Oper} {a : Act} {w : World} {Φ : Value → World → Prop} {Q : Exit → Act → World → Prop} (h : ∀ K : Act → World → Prop, (∀ v w', Below w.heap.size w w' → Φ v w' → K (a.put o.dst v) w') → o.wp P a w K Q) : o.wp P a w (fun a' w' => ∃ v, a' = a.put o.dst v ∧ Below w.heap.size w w' ∧ Φ v w') Q :=
  h _ fun v w' hb hv => ⟨v, rfl, hb, hv⟩
def zdz (T : Array Value) (o : Oper) : Value := match o.dst with | some d => T.getD d undef | none => undef
section
variable {ops : Array Oper}
end
def growsZ (ops : Array Oper) (n m : Nat) : Bool :=
  decide (n < ops.size) && ((List.range n).all fun i => (ops[i]?).any fun o =>
    (o.dst.all fun d => decide (d < m) && (List.range n).all fun j => decide (j = i) || !((ops[j]?).any fun oj => oj.dst == some d)) && ((zcn o).all fun j => decide (j < i)) &&
      (List.range (n + 1)).any fun k => decide (i < k) && (ops[k]?).any fun ok => (zcn ok).contains i) &&
  (List.range ops.size).all fun k => decide (k ≤ n) || (ops[k]?).any fun ok => (zcn ok).contains n
def slotZ (ops : Array Oper) (n : Nat) (t : Nat) : Bool := (List.range n).any fun i => (ops[i]?).any fun o => o.dst == some t
theorem zey {ops lit : Array Oper} {n : Nat} (h : ops = lit) (t : Nat) (hs : slotZ lit n t = false) : slotZ ops n t = false := by rw [h]; exact hs
def firstZ (n m : Nat) : Array Bool := Array.replicate n true ++ Array.replicate (m - n) false
def updX (X : Nat → Option Value) (i : Nat) (v : Value) : Nat → Option Value := fun j => if j = i then some v else X j
theorem updX_ne {X : Nat → Option Value} {i j : Nat} {v : Value} (h : j ≠ i) : updX X i v j = X j := if_neg h
section
variable {P : Program} {ops : Array Oper} {Q : Exit → Act → World → Prop} {Φ : Nat → Value → World → (Nat → Option Value) → Prop} {Pre : Nat → World → Prop} {J : World → Prop} {E : Nat → World → World → Prop} {a0 : Act} {w0 : World} {n : Nat}
theorem growsZ_at {m i : Nat} {o : Oper} (h : growsZ ops n m = true) (hin : i < n) (hi : ops[i]? = some o) :
    (∀ d, o.dst = some d → d < m ∧ ∀ j oj, j < n → ops[j]? = some oj → oj.dst = some d → j = i) ∧ (∀ j ∈ zcn o, j < i) ∧ ∃ k ok, i < k ∧ k ≤ n ∧ ops[k]? = some ok ∧ i ∈ zcn ok := by
  unfold growsZ at h
  rw [Bool.and_eq_true, Bool.and_eq_true] at h
  have h1 := List.all_eq_true.1 h.1.2 i (List.mem_range.2 hin)
  rw [hi] at h1
  simp only [Option.any_some, Bool.and_eq_true] at h1
  obtain ⟨⟨h2, h3⟩, h4⟩ := h1
  refine ⟨fun d hd => ?_, fun j hj => by simpa using List.all_eq_true.1 h3 j hj, ?_⟩
  · rw [hd] at h2
    simp only [Option.all_some, Bool.and_eq_true, decide_eq_true_eq] at h2
    refine ⟨h2.1, fun j oj hjn hj hoj => ?_⟩
    have h4 := List.all_eq_true.1 h2.2 j (List.mem_range.2 hjn)
    rw [hj] at h4
    simp only [Option.any_some, hoj, beq_self_eq_true, Bool.not_true, Bool.or_false, decide_eq_true_eq] at h4
    exact h4
  · obtain ⟨k, hk, h5⟩ := List.any_eq_true.1 h4
    rw [Bool.and_eq_true, decide_eq_true_eq] at h5
    cases hok : ops[k]? with
    | none => rw [hok] at h5; simp at h5
    | some ok =>
      rw [hok] at h5
      exact ⟨k, ok, h5.1, Nat.lt_succ_iff.1 (List.mem_range.1 hk), hok, by simpa using h5.2⟩
theorem growsZ_lt {m : Nat} (h : growsZ ops n m = true) : n < ops.size := by
  unfold growsZ at h
  rw [Bool.and_eq_true, Bool.and_eq_true, decide_eq_true_eq] at h
  exact h.1.1
theorem growsZ_tail {m k : Nat} {o : Oper} (h : growsZ ops n m = true) (hk : n < k) (ho : ops[k]? = some o) : n ∈ zcn o := by
  unfold growsZ at h
  rw [Bool.and_eq_true] at h
  have h1 := List.all_eq_true.1 h.2 k (List.mem_range.2 (Array.getElem?_eq_some_iff.1 ho).1)
  rw [ho, Bool.or_eq_true, decide_eq_true_eq] at h1
  rcases h1 with h1 | h1
  · omega
  · simpa using h1
structure GrowInvZ (ops : Array Oper) (n : Nat) (Φ : Nat → Value → World → (Nat → Option Value) → Prop) (Pre : Nat → World → Prop) (J : World → Prop) (a0 : Act) (X : Nat → Option Value) (listed : Array Bool) (a : Act) (w : World) : Prop where
  size : a.tmps.size = a0.tmps.size
  defers : a.defers = a0.defers
  inv : J w
  pre : ∀ i, listed[i]? = some false → Pre i w
  free : ∀ t, slotZ ops n t = false → a.tmps[t]? = a0.tmps[t]?
  holds : ∀ j oj, j < n → ops[j]? = some oj → listed[j]? = some true → Φ j (zdz a.tmps oj) w X
  known : ∀ j oj, ops[j]? = some oj → X j = if listed[j]? = some true then some (zdz a.tmps oj) else none
  down : ∀ (i : Nat) (o : Oper), ops[i]? = some o → listed[i]? = some true → ∀ j ∈ zcn o, listed[j]? = some true
  last : ∀ k, n ≤ k → k < ops.size → listed[k]? = some false
theorem all_listedZ {m : Nat} {listed : Array Bool} (hg : growsZ ops n m = true) (hlast : ∀ o, ops[n]? = some o → ∀ j ∈ zcn o, listed[j]? = some true) (hdown : ∀ (i : Nat) (o : Oper), ops[i]? = some o → listed[i]? = some true → ∀ j ∈ zcn o, listed[j]? = some true) :
    ∀ j, j < n → listed[j]? = some true := by
  have key : ∀ k j, n - k ≤ j → j < n → listed[j]? = some true := by
    intro k
    induction k with
    | zero => intro j h1 h2; omega
    | succ k ih =>
      intro j h1 h2
      rcases Nat.lt_or_ge j (n - k) with h | h
      · have hs := growsZ_lt hg
        have hlt : j < ops.size := by omega
        obtain ⟨_, _, i, oi, hji, hin, hoi, hmem⟩ := growsZ_at hg h2 (Array.getElem?_eq_getElem hlt)
        rcases Nat.lt_or_ge i n with h3 | h3
        · exact hdown i oi hoi (ih i (by omega) h3) j hmem
        · obtain rfl : i = n := by omega
          exact hlast oi hoi j hmem
      · exact ih j h h2
  exact fun j hj => key n j (by omega) hj
theorem first_eq {listed : Array Bool} (hs : listed.size = ops.size) (hn : n < ops.size) (h1 : ∀ j, j < n → listed[j]? = some true) (h2 : ∀ k, n ≤ k → k < ops.size → listed[k]? = some false) : listed = firstZ n ops.size := by
  apply Array.ext_getElem?
  intro i
  unfold firstZ
  rw [Array.getElem?_append]
  simp only [Array.size_replicate]
  rcases Nat.lt_or_ge i n with h | h
  · rw [if_pos h, h1 i h, Array.getElem?_replicate, if_pos h]
  · rw [if_neg (by omega), Array.getElem?_replicate]
    rcases Nat.lt_or_ge i ops.size with h3 | h3
    · rw [if_pos (by omega), h2 i h h3]
    · rw [if_neg (by omega), Array.getElem?_eq_none (by omega)]
theorem cntU_append (a b : List Bool) : cntU (a ++ b) = cntU a + cntU b := by
  induction a with
  | nil => simp [cntU]
  | cons x a ih => simp only [List.cons_append, cntU, ih]; omega
theorem cntU_trues (k : Nat) : cntU (List.replicate k true) = 0 := by
  induction k with
  | zero => rfl
  | succ k ih => rw [List.replicate_succ, cntU, ih]; simp
theorem cntU_first (k m : Nat) : cntU (firstZ k m).toList = m - k := by
  unfold firstZ
  rw [Array.toList_append, Array.toList_replicate, Array.toList_replicate, cntU_append, cntU_trues, zee, Nat.zero_add]
theorem wpAny_rz (hPs : ∀ i k w w', i ≠ k → Pre i w → J w → E k w w' → Pre i w') (hst : ∀ i k v w w' X u, i ≠ k → X k = none → Φ i v w X → J w → E k w w' → Φ i v w' (updX X k u)) (hg : growsZ ops n a0.tmps.size = true)
    (hseq : Region.seqB .any ops (ops.toList.drop n).length n (firstZ n ops.size) = true)
    (hstep : ∀ i o, i < n → ops[i]? = some o → ∀ (a : Act) (w : World) (X : Nat → Option Value), a.tmps.size = a0.tmps.size → a.defers = a0.defers → J w → Pre i w → X i = none → (∀ t, slotZ ops n t = false → a.tmps[t]? = a0.tmps[t]?) →
      (∀ j oj, j ∈ zcn o → ops[j]? = some oj → X j = some (zdz a.tmps oj) ∧ Φ j (zdz a.tmps oj) w X) →
      if Region.wanted o (yielded ops a.tmps) = true then o.wp P a w (fun a' w' => ∃ v, a' = a.put o.dst v ∧ E i w w' ∧ J w' ∧ Φ i (if o.dst.isSome then v else undef) w' (updX X i (if o.dst.isSome then v else undef))) Q else ∀ u, Φ i u w (updX X i u) ∧ E i w w)
    (hend : ∀ (a : Act) (w : World) (X : Nat → Option Value), a.tmps.size = a0.tmps.size → a.defers = a0.defers → J w → (∀ t, slotZ ops n t = false → a.tmps[t]? = a0.tmps[t]?) →
      (∀ j oj, j < n → ops[j]? = some oj → X j = some (zdz a.tmps oj) ∧ Φ j (zdz a.tmps oj) w X) → wpList P ops Q (ops.toList.drop n) a w) :
    ∀ (fuel : Nat) (listed : Array Bool) (a : Act) (w : World) (X : Nat → Option Value), listed.size = ops.size → cntU listed.toList = fuel → GrowInvZ ops n Φ Pre J a0 X listed a w → wpAny P .any ops Q fuel listed a w := by
  have hlt0 := growsZ_lt hg
  have fin : ∀ (fuel : Nat) (listed : Array Bool) (a : Act) (w : World) (X : Nat → Option Value), listed.size = ops.size → cntU listed.toList = fuel → GrowInvZ ops n Φ Pre J a0 X listed a w → (∀ j, j < n → listed[j]? = some true) → wpAny P .any ops Q fuel listed a w := by
    intro fuel listed a w X hsz hc inv hall
    obtain rfl := first_eq hsz hlt0 hall inv.last
    rw [cntU_first] at hc
    have h1 := hend a w X inv.size inv.defers inv.inv inv.free fun j oj hjn hj => ⟨by rw [inv.known j oj hj, if_pos (hall j hjn)], inv.holds j oj hjn hj (hall j hjn)⟩
    have h2 := wpAny_of_seq (md := .any) (Q' := Q) (ops.toList.drop n) n (firstZ n ops.size) a w (fun j => by rw [List.getElem?_drop, Array.getElem?_toList]) hseq h1
    have h3 : (ops.toList.drop n).length = fuel := by rw [List.length_drop, Array.length_toList]; exact hc
    rwa [h3] at h2
  have stuck : ∀ (listed : Array Bool) (a : Act) (w : World) (X : Nat → Option Value), listed.size = ops.size → Region.ready .any ops listed = [] → GrowInvZ ops n Φ Pre J a0 X listed a w → ∀ j, j < n → listed[j]? = some true := by
    intro listed a w X hsz hr inv
    have all : ∀ k i, i < k → i < n → listed[i]? = some true := by
      intro k
      induction k with
      | zero => intro i hi; omega
      | succ k ih =>
        intro i hi hlt
        rcases Nat.lt_or_ge i k with h | h
        · exact ih i h hlt
        · obtain rfl : i = k := by omega
          have hlo : i < ops.size := by omega
          have hl : i < listed.size := by omega
          cases hb : listed[i] with
          | true => rw [Array.getElem?_eq_getElem hl, hb]
          | false =>
            exfalso
            have hm : i ∈ Region.ready .any ops listed := by
              unfold Region.ready
              refine List.mem_filter.2 ⟨List.mem_range.2 hlo, ?_⟩
              have hi : ops[i]? = some ops[i] := Array.getElem?_eq_getElem hlo
              obtain ⟨_, hn, _⟩ := growsZ_at hg hlt hi
              rw [hi]
              simp only [Option.map_some, Option.getD_some, Bool.and_eq_true, Bool.not_eq_true']
              refine ⟨by simp [Array.getD_eq_getD_getElem?, Array.getElem?_eq_getElem hl, hb], Array.all_eq_true'.2 fun e he => ?_⟩
              cases hbd : Region.binds .any e with
              | false => rfl
              | true =>
                have hj := hn e.on (List.mem_map.2 ⟨e, List.mem_filter.2 ⟨by simpa using he, hbd⟩, rfl⟩)
                have := ih e.on hj (by omega)
                simp [Array.getD_eq_getD_getElem?, this]
            rw [hr] at hm
            cases hm
    exact fun j hj => all (j + 1) j (by omega) hj
  intro fuel
  induction fuel with
  | zero =>
    intro listed a w X hsz hc inv
    exfalso
    have h1 := inv.last n (Nat.le_refl _) hlt0
    have h2 := cntU_zero (l := listed.toList) (i := n) (b := false) hc (by rw [Array.getElem?_toList]; exact h1)
    cases h2
  | succ fuel ih =>
    intro listed a w X hsz hc inv
    by_cases hall : ∀ j, j < n → listed[j]? = some true
    · exact fin (fuel + 1) listed a w X hsz hc inv hall
    refine ⟨fun hr => absurd (stuck listed a w X hsz hr inv) hall, fun i hm => ?_⟩
    have hlt : i < ops.size := by
      unfold Region.ready at hm
      exact List.mem_range.1 (List.mem_filter.1 hm).1
    have hi : ops[i]? = some ops[i] := Array.getElem?_eq_getElem hlt
    obtain ⟨h1, h2⟩ := ready_needs hi hm
    have hl : i < listed.size := by omega
    have hb : listed[i] = false := by simpa [Array.getD_eq_getD_getElem?, Array.getElem?_eq_getElem hl] using h1
    have need : ∀ j ∈ zcn ops[i], listed[j]? = some true := by
      intro j hj
      have h3 := h2 j hj
      rcases Nat.lt_or_ge j listed.size with hjl | hjl
      · rw [Array.getElem?_eq_getElem hjl]
        simp only [Array.getD_eq_getD_getElem?, Array.getElem?_eq_getElem hjl, Option.getD_some] at h3
        rw [h3]
      · simp [Array.getD_eq_getD_getElem?, Array.getElem?_eq_none hjl] at h3
    have hin : i < n := by
      rcases Nat.lt_or_ge i n with hin | hin
      · exact hin
      · exfalso
        rcases Nat.eq_or_lt_of_le hin with h3 | h3
        · subst h3
          exact hall (all_listedZ hg (fun o ho j hj => by rw [hi] at ho; cases ho; exact need j hj) inv.down)
        · have h4 := need n (growsZ_tail hg h3 hi)
          rw [inv.last n (Nat.le_refl _) hlt0] at h4
          cases h4
    obtain ⟨hdu, hne, _⟩ := growsZ_at hg hin hi
    have hXi : X i = none := by rw [inv.known i _ hi, if_neg (by rw [Array.getElem?_eq_getElem hl, hb]; simp)]
    have hs := hstep i ops[i] hin hi a w X inv.size inv.defers inv.inv (inv.pre i (by rw [Array.getElem?_eq_getElem hl, hb])) hXi inv.free fun j oj hj hoj => ⟨by rw [inv.known j oj hoj, if_pos (need j hj)], inv.holds j oj (by have := hne j hj; omega) hoj (need j hj)⟩
    have next : ∀ (v : Value) (w' : World), E i w w' → J w' → Φ i (if ops[i].dst.isSome then v else undef) w' (updX X i (if ops[i].dst.isSome then v else undef)) → wpAny P .any ops Q fuel (listed.setIfInBounds i true) (a.put ops[i].dst v) w' := by
      intro v w' hgr hJ hv
      have hput : ∀ t, (∀ d, ops[i].dst = some d → t ≠ d) → (a.put ops[i].dst v).tmps[t]? = a.tmps[t]? := by
        intro t ht
        cases hd : ops[i].dst with
        | none => rfl
        | some d => exact put_other _ _ (ht d hd)
      have hsv : ∀ j oj, j < n ∨ oj.dst = none ∨ True → j ≠ i → ops[j]? = some oj → (∀ d, ops[i].dst = some d → oj.dst ≠ some d) → zdz (a.put ops[i].dst v).tmps oj = zdz a.tmps oj := by
        intro j oj _ hji hj hne'
        unfold zdz
        cases hdj : oj.dst with
        | none => rfl
        | some dj => exact getD_of (hput dj fun d hd e => hne' d hd (by rw [hdj, e]))
      have hself : zdz (a.put ops[i].dst v).tmps ops[i] = if ops[i].dst.isSome then v else undef := by
        unfold zdz
        cases hd : ops[i].dst with
        | none => rfl
        | some d =>
          simp only
          rw [put_same _ _ (by rw [inv.size]; exact (hdu d hd).1)]
          rfl
      refine ih _ _ _ (updX X i (if ops[i].dst.isSome then v else undef)) (by simp [hsz]) ?_ ⟨?_, ?_, hJ, fun k hk => ?_, fun t ht => ?_, fun j oj hjn hj hlj => ?_, fun j oj hj => ?_, fun k o hk hlk j hj => ?_, fun k hk hks => ?_⟩
      · have := cntU_set (l := listed.toList) (i := i) (by simp [hl, hb])
        simp only [Array.toList_setIfInBounds]
        omega
      · cases hd : ops[i].dst with
        | none => exact inv.size
        | some d => rw [put_size]; exact inv.size
      · cases hd : ops[i].dst with
        | none => exact inv.defers
        | some d => exact inv.defers
      · have hki : k ≠ i := by
          rintro rfl
          rw [Array.getElem?_setIfInBounds_self_of_lt hl] at hk
          cases hk
        rw [Array.getElem?_setIfInBounds_ne (Ne.symm hki)] at hk
        exact hPs k i w w' hki (inv.pre k hk) inv.inv hgr
      · rw [hput t (by
          rintro d hd rfl
          unfold slotZ at ht
          rw [List.any_eq_false] at ht
          have := ht i (List.mem_range.2 hin)
          rw [hi] at this
          simp [hd] at this)]
        exact inv.free t ht
      · by_cases hji : j = i
        · subst hji
          rw [hi] at hj
          cases hj
          rw [hself]
          exact hv
        · rw [hsv j oj (.inl hjn) hji hj fun d hd e => hji ((hdu d hd).2 j oj hjn hj e)]
          rw [Array.getElem?_setIfInBounds_ne (Ne.symm hji)] at hlj
          exact hst j i _ _ _ X _ hji hXi (inv.holds j oj hjn hj hlj) inv.inv hgr
      · by_cases hji : j = i
        · subst hji
          rw [hi] at hj
          cases hj
          rw [hself, Array.getElem?_setIfInBounds_self_of_lt hl, if_pos rfl, updX, if_pos rfl]
        · rw [updX_ne hji, Array.getElem?_setIfInBounds_ne (Ne.symm hji), inv.known j oj hj]
          rcases Nat.lt_or_ge j n with hjn | hjn
          · rw [hsv j oj (.inl hjn) hji hj fun d hd e => hji ((hdu d hd).2 j oj hjn hj e)]
          · rw [inv.last j hjn (Array.getElem?_eq_some_iff.1 hj).1]
            rfl
      · have hj' : listed[j]? = some true := by
          by_cases hki : k = i
          · subst hki
            rw [hi] at hk
            cases hk
            exact need j hj
          · rw [Array.getElem?_setIfInBounds_ne (Ne.symm hki)] at hlk
            exact inv.down k o hk hlk j hj
        by_cases hji : j = i
        · subst hji
          rw [Array.getElem?_setIfInBounds_self_of_lt hl]
        · rw [Array.getElem?_setIfInBounds_ne (Ne.symm hji)]
          exact hj'
      · rw [Array.getElem?_setIfInBounds_ne (by omega)]
        exact inv.last k hk hks
    unfold wpOp
    rw [hi]
    simp only
    split
    · rename_i hw
      rw [if_pos hw] at hs
      exact .inl (Oper.wp_mono (fun a' w' ⟨v, ha, hbw, hJ, hv⟩ => by rw [ha]; exact next v w' hbw hJ hv) hs)
    · rename_i hw
      rw [if_neg hw] at hs
      exact next undef w (hs undef).2 inv.inv (by split <;> exact (hs undef).1)
theorem zfk {id : Nat} (n : Nat) (Φ : Nat → Value → World → (Nat → Option Value) → Prop) (Pre : Nat → World → Prop) (J : World → Prop) (E : Nat → World → World → Prop) (hm : P.follows .mixedOrders = true) (hJ0 : J w0.drew) (hP0 : ∀ i, Pre i w0.drew)
    (hPs : ∀ i k w w', i ≠ k → Pre i w → J w → E k w w' → Pre i w') (hst : ∀ i k v w w' X u, i ≠ k → X k = none → Φ i v w X → J w → E k w w' → Φ i v w' (updX X k u)) (hg : growsZ ops n a0.tmps.size = true)
    (hseq : Region.seqB .any ops (ops.toList.drop n).length n (firstZ n ops.size) = true)
    (hstep : ∀ i o, i < n → ops[i]? = some o → ∀ (a : Act) (w : World) (X : Nat → Option Value), a.tmps.size = a0.tmps.size → a.defers = a0.defers → J w → Pre i w → X i = none → (∀ t, slotZ ops n t = false → a.tmps[t]? = a0.tmps[t]?) →
      (∀ j oj, j ∈ zcn o → ops[j]? = some oj → X j = some (zdz a.tmps oj) ∧ Φ j (zdz a.tmps oj) w X) →
      if Region.wanted o (yielded ops a.tmps) = true then o.wp P a w (fun a' w' => ∃ v, a' = a.put o.dst v ∧ E i w w' ∧ J w' ∧ Φ i (if o.dst.isSome then v else undef) w' (updX X i (if o.dst.isSome then v else undef))) Q else ∀ u, Φ i u w (updX X i u) ∧ E i w w)
    (hend : ∀ (a : Act) (w : World) (X : Nat → Option Value), a.tmps.size = a0.tmps.size → a.defers = a0.defers → J w → (∀ t, slotZ ops n t = false → a.tmps[t]? = a0.tmps[t]?) →
      (∀ j oj, j < n → ops[j]? = some oj → X j = some (zdz a.tmps oj) ∧ Φ j (zdz a.tmps oj) w X) → wpList P ops Q (ops.toList.drop n) a w) :
    (Code.region id ops true).wp P Q a0 w0 := by
  have hlt0 := growsZ_lt hg
  refine wp_region_any hm (wpAny_rz hPs hst hg hseq hstep hend _ _ _ _ (fun _ => none) (by simp) (by simp [zee]) ⟨rfl, rfl, hJ0, fun i _ => hP0 i, fun _ _ => rfl, fun j oj hjn hj hlj => ?_, fun j oj hj => ?_, fun i o hi hl => ?_, fun k hk hks => ?_⟩)
  · rw [Array.getElem?_replicate] at hlj
    split at hlj <;> cases hlj
  · rw [if_neg]
    rw [Array.getElem?_replicate]
    split <;> simp
  · rw [Array.getElem?_replicate] at hl
    split at hl <;> cases hl
  · rw [Array.getElem?_replicate, if_pos hks]
end
theorem zao {P : Program} {o : Oper} {a : Act} {w : World} {J : World → Prop} {E : World → Prop} {Φ : Value → World → (Nat → Option Value) → Prop} {X : Nat → Option Value} {i : Nat} {Q : Exit → Act → World → Prop}
    (h : ∀ K : Act → World → Prop, (∀ v w', E w' → J w' → Φ (if o.dst.isSome then v else undef) w' (updX X i (if o.dst.isSome then v else undef)) → K (a.put o.dst v) w') → o.wp P a w K Q) :
    o.wp P a w (fun a' w' => ∃ v, a' = a.put o.dst v ∧ E w' ∧ J w' ∧ Φ (if o.dst.isSome then v else undef) w' (updX X i (if o.dst.isSome then v else undef))) Q :=
  h _ fun v w' hb hJ hv => ⟨v, rfl, hb, hJ, hv⟩
theorem zak (w : World) (r : Option Nat) : w.grownBy w r := ⟨rfl, rfl, rfl, Nat.le_refl _, fun _ _ _ => rfl⟩
theorem zap {a b c : World} {r : Option Nat} (h : a.grownBy b r) (k : b.grownBy c r) : a.grownBy c r :=
  ⟨k.os.trans h.os, k.tape.trans h.tape, k.output.trans h.output, Nat.le_trans h.size k.size, fun j hj hr => (k.block j (Nat.lt_of_lt_of_le hj h.size) hr).trans (h.block j hj hr)⟩
theorem zdh (w : World) (o : Obj) (r : Option Nat) : w.grownBy (w.alloc o) r := zbe (zbt w o)
theorem zex {w w' : World} {r : Option Nat} {S : Nat → Prop} (hg : w.grownBy w' r) (hS : ∀ b, S b → b < w.heap.size ∧ some b ≠ r) : Same S S w w' := fun b hb => ⟨hb, fun o => World.cell?_of_block (hg.block b (hS b hb).1 (hS b hb).2)⟩
theorem OwnS.own_lt {α : Type} {n : Nat} {t : TypeId} {R : World → (Nat → Prop) → Value → α → Prop} {w : World} {base : Nat} {S : Nat → Prop} {v : Value} {l : List α} (h : OwnS n t R w base S v l) : ∀ b, v.ownBlock = some b → base ≤ b ∧ b < w.heap.size := by
  obtain ⟨es, h1, _⟩ := h
  exact fun b hb => h1.lt b hb
theorem OwnS.grown {α : Type} {n : Nat} {t : TypeId} {R : World → (Nat → Prop) → Value → α → Prop} (hR : Stb R) {w w' : World} {base : Nat} {S : Nat → Prop} {v : Value} {l : List α} {r : Option Nat} (h : OwnS n t R w base S v l)
    (hb : w.grownBy w' r) (hr : ∀ b, r = some b → v.ownBlock ≠ some b ∧ ¬ S b) : OwnS n t R w' base S v l := by
  obtain ⟨es, h1, h2, h3, h4⟩ := h
  have hne : v.ownBlock = none ∨ v.ownBlock ≠ r := by
    cases r with
    | none => cases v.ownBlock <;> simp
    | some b => exact .inr (hr b rfl).1
  refine ⟨es, h1.kept hb hne, h2, h3.imp fun x y h => hR.to h (zex hb fun b hb' => ⟨(h4 b hb').1, fun e => (hr b e.symm).2 hb'⟩), fun b hb' => ⟨Nat.lt_of_lt_of_le (h4 b hb').1 hb.size, (h4 b hb').2⟩⟩
theorem OwnS.wider {α : Type} {n : Nat} {t : TypeId} {R : World → (Nat → Prop) → Value → α → Prop} (hR : Stb R) {w : World} {base : Nat} {S T : Nat → Prop} {v : Value} {l : List α} (h : OwnS n t R w base S v l)
    (hST : ∀ b, S b → T b) (hT : ∀ b, T b → b < w.heap.size ∧ some b ≠ v.ownBlock) : OwnS n t R w base T v l := by
  obtain ⟨es, h1, h2, h3, h4⟩ := h
  exact ⟨es, h1, h2, h3.imp fun x y h => hR.to h fun b hb => ⟨hST b hb, fun o => rfl⟩, hT⟩
theorem Row.grownN {w w' : World} {g : Nat} {t : TypeId} {xs : List Value} {r : Option Nat} (h : Row w g t xs) (hb : w.grownBy w' r) (hr : ∀ b, r = some b → g ≠ b) : Row w' g t xs := h.grown hb (fun e => hr g e.symm rfl)
theorem IsD.grownN {w w' : World} {g : Nat} {l : List Int} {r : Option Nat} (h : IsD w g l) (hb : w.grownBy w' r) (hr : ∀ b, r = some b → g < b) : IsD w' g l := by
  cases r with
  | none =>
    have hl := h.lt
    obtain ⟨A, c, k, h1, h2, h3⟩ := h
    exact ⟨A, c, k, h1.grown hb (by simp), IsIL.stb.to h2 (zex hb fun b hb' => ⟨by omega, by simp⟩), h3⟩
  | some b => exact h.grown hb (hr b rfl)
structure Kept (r1 r2 r3 : Option Nat) (w w' : World) : Prop where
  os : w'.os = w.os
  tape : w'.tape = w.tape
  output : w'.output = w.output
  size : w.heap.size ≤ w'.heap.size
  block : ∀ k, k < w.heap.size → some k ≠ r1 → some k ≠ r2 → some k ≠ r3 → w'.heap[k]? = w.heap[k]?
theorem Kept.refl (r1 r2 r3 : Option Nat) (w : World) : Kept r1 r2 r3 w w := ⟨rfl, rfl, rfl, Nat.le_refl _, fun _ _ _ _ _ => rfl⟩
theorem Kept.step {r1 r2 r3 : Option Nat} {a b c : World} {r : Option Nat} (h : Kept r1 r2 r3 a b) (k : b.grownBy c r) (hr : r = none ∨ r = r1 ∨ r = r2 ∨ r = r3) : Kept r1 r2 r3 a c :=
  ⟨k.os.trans h.os, k.tape.trans h.tape, k.output.trans h.output, Nat.le_trans h.size k.size, fun j hj n1 n2 n3 => (k.block j (Nat.lt_of_lt_of_le hj h.size) (by rcases hr with rfl | rfl | rfl | rfl; simp; exact n1; exact n2; exact n3)).trans (h.block j hj n1 n2 n3)⟩
theorem step_appG {P : Program} {w : World} {o : Oper} {a : Act} {K : Act → World → Prop} {Q : Exit → Act → World → Prop} {t e : TypeId} {n bytes : Nat} (El : ElN P t e n bytes) (s x : Operand) (ho : o.op = .call { callee := .builtin .append, args := #[s, x], argTypes := #[t, t] })
    {α : Type} {R : World → (Nat → Prop) → Value → α → Prop} (hR : Stb R) {base h : Nat} {S : Nat → Prop} {v ev : Value} {l : List α} {y : α} {te : TypeId}
    (hs : a.eval s = v) (hx : a.eval x = .slice (some ⟨h, 0, none⟩) 1 1) (hr : Row w h te ev.cells.toList) (hown : OwnS n e R w base S v l) (he : R w S ev y) (hn : ev.cells.size = n)
    (h1 : ∀ u ∈ ev.cells, u.oneCell' = true) (hb : (l.length + 1) * (bytes + 1) ≤ 140737488355328) (hbase : base ≤ w.heap.size)
    (hK : ∀ v' w', OwnS n e R w' base S v' (l ++ [y]) → w.grownBy w' v.ownBlock → (v'.ownBlock = v.ownBlock ∨ v'.ownBlock = some w.heap.size) → K (a.put o.dst v') w') : o.wp P a w K Q := by
  obtain ⟨i, z, hi, hz, hsz, hby, hzc⟩ := El.info
  obtain ⟨es, h1', h2, h3, h4⟩ := hown
  rw [Nat.mul_add, Nat.mul_one] at hb
  obtain ⟨v', w', hrun, g1, g2, _, g4⟩ := run_append_own_at (P := P) w base t o.type e i z n bytes El.und hi hz hsz hby hzc El.pos v l.length (cellsOf es) h1' ⟨h, 0, none⟩ 1 1 ev.cells.toList (by simp [hn])
    (fun j u hu => by rw [Addr.add_lit, Nat.zero_add, hr.cell j]; exact hu) (by simpa using h1) (by unfold maxLen; omega) (by omega) hbase
  unfold Oper.wp execOp
  simp only [ho, resolve, invoke, builtin, Sem.run_bind, Sem.run_pure, Result.andThen_ok, List.map_toArray, List.map_cons, List.map_nil, hs, hx, hrun]
  exact hK v' w' (OwnS.app hR h2 h3 h4 he hn g1 g2 g4) g2 g4
def NewRow (w : World) (n0 : Nat) (t : TypeId) (xs : List Value) (v : Value) : Prop := ∃ h, v = .slice (some ⟨h, 0, none⟩) 1 1 ∧ n0 ≤ h ∧ Row w h t xs
theorem NewRow.grown {w w' : World} {n0 : Nat} {t : TypeId} {xs : List Value} {v : Value} {r : Option Nat} (h : NewRow w n0 t xs v) (hb : w.grownBy w' r) (hr : ∀ b, r = some b → b < n0) : NewRow w' n0 t xs v := by
  obtain ⟨g, e, h1, h2⟩ := h
  exact ⟨g, e, h1, h2.grownN hb fun b e => by have := hr b e; omega⟩
theorem zei {T : Array Value} {t : Nat} {v : Value} (h : T[t]? = some v) : T.getD t undef = v := by simp [Array.getD_eq_getD_getElem?, h]
theorem Row.kept {w w' : World} {g : Nat} {t : TypeId} {xs : List Value} {r1 r2 r3 : Option Nat} (h : Row w g t xs) (k : Kept r1 r2 r3 w w') (h1 : r1 ≠ some g) (h2 : r2 ≠ some g) (h3 : r3 ≠ some g) : Row w' g t xs := (k.block g h.lt (Ne.symm h1) (Ne.symm h2) (Ne.symm h3)).trans h
theorem zdc {w w' : World} {g n : Nat} (h : w.grownBy w' (some g)) (hn : w.heap.size ≤ n) (o : Nat) (u : Value) : w.grownBy (w'.setCell ⟨n, o, none⟩ u) (some g) :=
  ⟨h.os, h.tape, h.output, by rw [show (w'.setCell ⟨n, o, none⟩ u).heap.size = w'.heap.size by simp [World.setCell]]; exact h.size, fun k hk hr => (Below.heap_setCell w' ⟨n, o, none⟩ u k (fun e => by have : n = k := e.symm; omega)).trans (h.block k hk hr)⟩
theorem run_cloneS {P : Program} {w : World} {t e : TypeId} {n bytes : Nat} (E : ElN P t e n bytes) (ty : TypeId) {α : Type} {R : World → (Nat → Prop) → Value → α → Prop} (hR : Stb R) {S : Nat → Prop} {v : Value} {l : List α} (hv : IsS n R w S v l) (hl : l ≠ [])
    (hS : ∀ b, S b → b < w.heap.size) (h1 : ∀ e x, R w S e x → ∀ u ∈ e.cells, u.oneCell' = true) (hb : l.length * (bytes + 1) ≤ 140737488355328) {base : Nat} (hbase : base ≤ w.heap.size) :
    ∃ v' w', (Builtin.append_ #[t, t] ty #[.slice none 0 0, v]).run P w = .ok v' w' ∧ OwnS n e R w' base S v' l ∧ w.grownBy w' none ∧ (∀ b, v'.ownBlock = some b → w.heap.size ≤ b) := by
  obtain ⟨i, z, hi, hz, hsz, hby, hzc⟩ := E.info
  obtain ⟨A, c, es, rfl, hc1, hc2, h3, h4, h5⟩ := hv
  have hes : es ≠ [] := fun e => hl (List.eq_nil_of_length_eq_zero (by rw [← h5.1, e]; rfl))
  have hlen := cellsOf_length h4
  have hne : cellsOf es ≠ [] := fun e => by
    rw [e] at hlen
    have h6 : 0 < es.length := Nat.pos_of_ne_zero fun h => hes (List.eq_nil_of_length_eq_zero h)
    have := Nat.mul_pos h6 E.pos
    simp at hlen
    omega
  obtain ⟨b, off, rfl, hSb, hcell⟩ := h3 hne
  rw [Nat.mul_add, Nat.mul_one] at hb
  obtain ⟨es0, g1, _⟩ := OwnS.nil (α := α) (n := n) (t := e) (R := R) (w := w) (base := base) (S := fun _ => False) (fun b h => h.elim)
  have ec : cellsOf es0 = [] := by
    have := g1.1
    simpa using this
  rw [ec] at g1
  obtain ⟨v', w', hrun, k1, k2, _, k4⟩ := run_append_own_at (P := P) w base t ty e i z n bytes E.und hi hz hsz hby hzc E.pos (.slice none 0 0) 0 [] g1 ⟨b, off, none⟩ l.length c (cellsOf es)
    (by rw [hlen, h5.1]) (fun j u hu => by rw [Addr.add_lit]; exact hcell j u hu) (fun u hu => by
      unfold cellsOf at hu
      obtain ⟨x, hx, hu⟩ := List.mem_flatMap.1 hu
      obtain ⟨j, hj⟩ := List.getElem?_of_mem hx
      obtain ⟨y, hy⟩ : ∃ y, l[j]? = some y := ⟨_, List.getElem?_eq_getElem (by rw [← h5.1]; exact (List.getElem?_eq_some_iff.1 hj).1)⟩
      exact h1 _ _ (h5.2 j _ _ hj hy) u (by simpa using hu)) (by unfold maxLen; omega) (by rw [Nat.zero_add]; omega) hbase
  have k2' : w.grownBy w' none := by simpa [Value.ownBlock] using k2
  have ho : ∀ b, v'.ownBlock = some b → w.heap.size ≤ b := fun b hb => by
    rcases k4 with k | k
    · rw [k] at hb; cases hb
    · rw [k] at hb; cases hb; exact Nat.le_refl _
  refine ⟨v', w', hrun, ⟨es, ?_, h4, h5.imp fun x y h => hR.to h (zex k2' fun b hb => ⟨hS b hb, by simp⟩), fun b hb => ⟨Nat.lt_of_lt_of_le (hS b hb) k2'.size, fun e => ?_⟩⟩, k2', ho⟩
  · rw [Nat.zero_add, List.nil_append] at k1
    exact k1
  · have := ho b e.symm
    have := hS b hb
    omega
theorem step_cloneG {P : Program} {w : World} {o : Oper} {a : Act} {K : Act → World → Prop} {Q : Exit → Act → World → Prop} {t e : TypeId} {n bytes : Nat} (E : ElN P t e n bytes) (s x : Operand) (ho : o.op = .call { callee := .builtin .append, args := #[s, x], argTypes := #[t, t] })
    {α : Type} {R : World → (Nat → Prop) → Value → α → Prop} (hR : Stb R) {S : Nat → Prop} {v : Value} {l : List α} (hs : a.eval s = .slice none 0 0) (hx : a.eval x = v) (hv : IsS n R w S v l) (hl : l ≠ [])
    (hS : ∀ b, S b → b < w.heap.size) (h1 : ∀ e x, R w S e x → ∀ u ∈ e.cells, u.oneCell' = true) (hb : l.length * (bytes + 1) ≤ 140737488355328) {base : Nat} (hbase : base ≤ w.heap.size)
    (hK : ∀ v' w', OwnS n e R w' base S v' l → w.grownBy w' none → (∀ b, v'.ownBlock = some b → w.heap.size ≤ b) → K (a.put o.dst v') w') : o.wp P a w K Q := by
  obtain ⟨v', w', hrun, g1, g2, g3⟩ := run_cloneS (P := P) (w := w) E o.type hR hv hl hS h1 hb hbase
  unfold Oper.wp execOp
  simp only [ho, resolve, invoke, builtin, Sem.run_bind, Sem.run_pure, Result.andThen_ok, List.map_toArray, List.map_cons, List.map_nil, hs, hx, hrun]
  exact hK v' w' g1 g2 g3
theorem wp_cloneS {P : Program} {w : World} {ops : Array Oper} {rest : List Oper} {o : Oper} {a : Act} {Q : Exit → Act → World → Prop} {t e : TypeId} {n bytes : Nat} (E : ElN P t e n bytes) (hgd : o.guard = none) (s x : Operand) (ho : o.op = .call { callee := .builtin .append, args := #[s, x], argTypes := #[t, t] })
    {α : Type} {R : World → (Nat → Prop) → Value → α → Prop} (hR : Stb R) {S : Nat → Prop} {v : Value} {l : List α} (hs : a.eval s = .slice none 0 0) (hx : a.eval x = v) (hv : IsS n R w S v l) (hl : l ≠ [])
    (hS : ∀ b, S b → b < w.heap.size) (h1 : ∀ e x, R w S e x → ∀ u ∈ e.cells, u.oneCell' = true) (hb : l.length * (bytes + 1) ≤ 140737488355328) {base : Nat} (hbase : base ≤ w.heap.size)
    (h : ∀ v' w', OwnS n e R w' base S v' l → Below w.heap.size w w' → wpList P ops Q rest (a.put o.dst v') w') : wpList P ops Q (o :: rest) a w :=
  wpList_plain hgd fun K hK => step_cloneG E s x ho hR hs hx hv hl hS h1 hb hbase fun v' w' g1 g2 _ => hK _ _ (h v' w' g1 ((Below.refl _ w).grown g2 (Nat.le_refl _) (fun k e => by cases e)))
theorem isR_one {w : World} {S : Nat → Prop} {e : Value} {x : Raw} (h : IsR w S e x) : ∀ u ∈ e.cells, u.oneCell' = true := by
  obtain ⟨A, c, B, d, rfl, _, _⟩ := h
  intro u hu
  simp [Value.cells] at hu
  rcases hu with rfl | rfl | rfl <;> rfl
end Go.Proofs.YtjkgdggkgljdoaaDoor
namespace Go.Proofs.YtjkgdggkgljdoaaDoor
open Go.RowKit Go.Shelf
attribute [local go_sem] Oper.semAt_some
set_option linter.unusedVariables false
def SideOk (w : World) (n : Nat) (p : (S3 × List Rat) × (Q3 × Rat)) : Prop := IsV w (Old w) (.slice p.1.1.1 p.1.1.2.1 p.1.1.2.2) (rawV p.1.2) ∧ p.1.2.length = n ∧ IsQ w (Old w) (q3 p.2.1) p.2.2 ∧ (∀ q ∈ p.1.2, Sz q 1024) ∧ Sz p.2.2 1024
abbrev Side (w : World) (n : Nat) := {p : (S3 × List Rat) × (Q3 × Rat) // SideOk w n p}
def Side.qs {w : World} {n : Nat} (x : Side w n) : List Rat × Rat := (x.1.1.2, x.1.2.2)
end Go.Proofs.YtjkgdggkgljdoaaDoor
