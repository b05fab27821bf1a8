/-
  A Draws that hands out the numbers of a list: in memory, and the zaf of its Next.
-/
import Derived.Test.YtijjjbgnpfjpmaaGreatDoorCoh01
import Derived.Test.YtijjjbgnpfjpmaaGreatDoorCoh02
import Derived.Test.YtijjjbgnpfjpmaaGreatDoorProofCoarseHistory01
import Derived.Test.YtijjjbgnpfjpmaaGreatDoorCoh04
import Derived.Test.YtijjjbgnpfjpmaaGreatDoorProofCoarseHistory08
import Derived.StillTail
import Derived.Maps.AppendAt
import Derived.Test.YtijjjbgnpfjpmaaGreatDoorProofCoarseHistory03
import Derived.Test.YtijjjbgnpfjpmaaGreatDoorProofCoarseHistory07
namespace Go.Proofs.YtijjjbgnpfjpmaaGreatDoor
open Go.RowKit
set_option linter.unusedVariables false
def IsD (w : World) (g : Nat) (l : List Int) : Prop :=
  ∃ A c k, Row w g 131 [.slice A l.length c, .int .i64 ((k : Nat) : Int)] ∧ IsIL w (fun b => b < g) (.slice A l.length c) l ∧ k ≤ l.length
theorem IsD.lt {w : World} {g : Nat} {l : List Int} (h : IsD w g l) : g < w.heap.size := by
  obtain ⟨A, c, k, h1, _⟩ := h
  exact h1.lt
theorem IsD.next {w w' : World} {g B : Nat} {l : List Int} (h : IsD w g l) (hb : Below B w w') (hg : g < B) : IsD w' g l := by
  obtain ⟨A, c, k, h1, h2, h3⟩ := h
  exact ⟨A, c, k, h1.below hb hg, IsIL.stb.to h2 (zdj hb fun b h => Nat.lt_trans h hg), h3⟩
theorem IsD.grown {w w' : World} {g r : Nat} {l : List Int} (h : IsD w g l) (hb : w.grownBy w' (some r)) (hr : g < r) : IsD w' g l := by
  have hl := h.lt
  obtain ⟨A, c, k, h1, h2, h3⟩ := h
  exact ⟨A, c, k, h1.grown hb (fun e => by cases e; omega), IsIL.stb.to h2 (same_grown hb fun b hb' => ⟨by omega, by omega⟩), h3⟩
theorem IsD.far {w : World} {g : Nat} {l : List Int} (h : IsD w g l) {p : Addr} (hp : g < p.block) (u : Value) : IsD (w.setCell p u) g l := by
  obtain ⟨A, c, k, h1, h2, h3⟩ := h
  refine ⟨A, c, k, h1.far og u, IsIL.stb.to h2 fun b hb => ⟨hb, fun o => ?_⟩, h3⟩
  rw [World.cell?_setCell_other _ _ _ _ (fun e => by rw [e] at hp; simp at hp; omega)]
theorem Only.grown {g : Nat} {a b : World} (h : Only g a b) : a.grownBy b (some g) := ⟨h.os, h.tape, h.output, Nat.le_of_eq h.size.symm, fun k hk hr => h.block k (fun e => hr (by rw [e]))⟩
def Drew (n : Nat) (e : Ending) : Prop := ∃ x : Nat, x < n ∧ e = .returned (.int .i64 (x : Int))
set_option maxRecDepth 100000 in
set_option maxHeartbeats 1000000 in
theorem next_l {w : World} {g : Nat} {l : List Int} (h : IsD w g l) {n : Nat} (hn : 1 ≤ n) (hn1 : n ≤ 1000000) :
    Calls Tryz.prog 94 #[.pointer (some ⟨g, 0, none⟩), .int .i64 (n : Int)] w fun e w' => Drew n e ∧ IsD w' g l ∧ Only g w w' := by
  obtain ⟨A, c, k, hr, hl, hk⟩ := id h
  have HR := Lib.hid hr
  have HL := Lib.hid hl
  have HD := Lib.hid h
  have c0 := hr.cell 0
  have c1 := hr.cell 1
  have f1 := hr.frozen 1
  have hlm : l.length ≤ maxLen := by obtain ⟨_, _, hv, h1, h2, _⟩ := hl; omega
  unfold maxLen at hlm
  simp at c0 c1
  have hg := hr.lt
  obtain ⟨m, hm⟩ : ∃ m, m = l.length := ⟨_, rfl⟩
  have Hm := Lib.hid hm
  have t2 : decide ((n : Int) < 1) = false := by simp; omega
  rcases Nat.lt_or_ge k l.length with hlt | hge
  · obtain ⟨x, hx⟩ : ∃ x, l[k]? = some x := ⟨_, List.getElem?_eq_getElem hlt⟩
    obtain ⟨h64, b, off, rfl, hbg, hc⟩ := isIL_get hl hx
    have Hc := Lib.hid hc
    rw [← hm] at c0 hlt hlm hk
    have t1 : decide (m ≤ k) = false := by simp; omega
    have H64 := Lib.hid h64
    clear h hr hl hx hc hm h64
    go_enter Tryz.func94, Tryz.ntmps94
    go_wp2_with fail
    go_quiet (fail)
    obtain ⟨w1, hw1⟩ : ∃ w1, w1 = w.drewN nq := ⟨_, rfl⟩
    have e0 : w1.cell? ⟨g, 0, none⟩ = some (.slice (some ⟨b, off, none⟩) m c) := by rw [hw1]; exact c0
    have e1 : w1.cell? ⟨g, 1, none⟩ = some (.int .i64 (k : Int)) := by rw [hw1]; exact c1
    have e2 : w1.frozen? ⟨g, 1, none⟩ = false := by rw [hw1]; exact f1
    have HC1 : Hid (w1.cell? ⟨b, off + k, none⟩ = some (.int .i64 x)) := by rw [hw1]; exact Hc.out
    have HR1 : Hid (Row w1 g 131 [.slice (some ⟨b, off, none⟩) m c, .int .i64 (k : Int)]) := by rw [hw1, Hm.out]; exact HR.out.drewN nq
    have HO1 : Hid (Only g w w1) := by rw [hw1]; exact (Only.refl g w).drewN nq
    rw [← hw1]
    clear c0 c1 f1 hw1
    go_wp2_with fail
    obtain ⟨w2, hw2⟩ : ∃ w2, w2 = w1.setCell ⟨g, 1, none⟩ (.int .i64 ((k : Int) + 1)) := ⟨_, rfl⟩
    have HR2 : Hid (Row w2 g 131 [.slice (some ⟨b, off, none⟩) m c, .int .i64 ((k : Int) + 1)]) := by rw [hw2]; exact HR1.out.set_ 1 _
    have HO2 : Hid (Only g w w2) := by rw [hw2]; exact HO1.out.setCell 1 _
    have d0 := HR2.out.cell 0
    have d1 := HR2.out.cell 1
    have d2 : w2.cell? ⟨b, off + k, none⟩ = some (.int .i64 x) := by
      rw [hw2, World.cell?_setCell_other _ _ _ _ (fun e => by injection e with h1 h2; omega)]
      exact HC1.out
    simp at d0 d1
    have e3 : IntKind.i64.wrap (k : Int) = (k : Int) := IntWalk.i64_in _ og
    have e4 : (k : Int).toNat = k := og
    have hk0 : (0 : Int) ≤ (k : Int) := og
    have hk1 : (k : Int) < (m : Int) := og
    rw [← hw2]
    clear hw2 e0 e1 e2
    go_quiet ((go_at_call 32; exact Calls.quiet_of_same ((mod_n _ x (n : Int) H64.out.1 H64.out.2 og og).mono fun e w' h => ⟨h.1, h.2.symm⟩)))
    obtain ⟨w3, hw3⟩ : ∃ w3, w3 = w2.drewN nq := ⟨_, rfl⟩
    have HR3 : Hid (Row w3 g 131 [.slice (some ⟨b, off, none⟩) m c, .int .i64 ((k : Int) + 1)]) := by rw [hw3]; exact HR2.out.drewN nq
    have HO3 : Hid (Only g w w3) := by rw [hw3]; exact HO2.out.drewN nq
    have m0 := Int.emod_nonneg x (show (n : Int) ≠ 0 by omega)
    have m1 := Int.emod_lt_of_pos x (show (0 : Int) < n by omega)
    rw [← hw3]
    clear hw3
    go_wp2_with fail
    go_ret
    refine ⟨⟨(x % (n : Int)).toNat, by omega, zae og⟩, ⟨some ⟨b, off, none⟩, c, k + 1, by rw [← Hm.out]; exact HR3.out, ?_, by rw [← Hm.out]; omega⟩, HO3.out⟩
    exact IsIL.stb.to HL.out fun b hb => ⟨hb, fun o => World.cell?_of_block (HO3.out.block b (by have : b < g := hb; omega))⟩
  · have hkm : k = m := og
    rw [← hm] at c0
    have t1 : decide (m ≤ k) = true := by simp; omega
    clear h hr hl hm
    go_enter Tryz.func94, Tryz.ntmps94
    go_wp2_with fail
    go_quiet (fail)
    go_wp2_with fail
    go_ret
    exact ⟨⟨0, by omega, rfl⟩, HD.out.next (Dr.below ⟨nq, rfl⟩ _) hg, (Only.refl g w).drewN nq⟩
theorem next_i {w : World} {g : Nat} {l : List Int} (h : IsD w g l) (n : Int) (hn : 1 ≤ n) (hn1 : n ≤ 1000000) :
    Calls Tryz.prog 94 #[.pointer (some ⟨g, 0, none⟩), .int .i64 n] w fun e w' => (∃ x : Int, 0 ≤ x ∧ x < n ∧ e = .returned (.int .i64 x)) ∧ IsD w' g l ∧ Only g w w' := by
  have e : n = ((n.toNat : Nat) : Int) := og
  rw [e]
  exact (next_l h (n := n.toNat) og og).mono fun e w' ⟨⟨x, hx, he⟩, h1, h2⟩ => ⟨⟨x, by omega, by omega, he⟩, h1, h2⟩
def growsS (ops : Array Oper) (n m : Nat) : Bool :=
  decide (ops.size = n + 1) && (ops[n]?).any (fun o => o.guard.isNone && (zcc o).all fun j => decide (j < n)) && (List.range n).all fun i => (ops[i]?).any fun o =>
    (o.dst.any fun d => decide (d < m) && (List.range n).all fun j => decide (j = i) || !((ops[j]?).any fun oj => oj.dst == some d)) && ((zcc o).all fun j => decide (j < i)) &&
      (List.range (n + 1)).any fun k => decide (i < k) && (ops[k]?).any fun ok => (zcc ok).contains i
def slotN (ops : Array Oper) (n : Nat) (t : Nat) : Bool := (List.range n).any fun i => (ops[i]?).any fun o => o.dst == some t
section
variable {P : Program} {ops : Array Oper} {Q : Exit → Act → World → Prop} {Φ : Nat → Value → World → Prop} {a0 : Act} {w0 : World} {n : Nat}
theorem zfb {m i : Nat} {o : Oper} (h : growsS ops n m = true) (hin : i < n) (hi : ops[i]? = some o) :
    ∃ d, o.dst = some d ∧ d < m ∧ (∀ j oj, j < n → ops[j]? = some oj → oj.dst = some d → j = i) ∧ (∀ j ∈ zcc o, j < i) ∧ ∃ k ok, i < k ∧ k ≤ n ∧ ops[k]? = some ok ∧ i ∈ zcc ok := by
  unfold growsS at h
  rw [Bool.and_eq_true, Bool.and_eq_true] at h
  have h1 := List.all_eq_true.1 h.2 i (List.mem_range.2 hin)
  rw [hi] at h1
  simp only [Option.any_some, Bool.and_eq_true] at h1
  obtain ⟨⟨h2, h3⟩, h4⟩ := h1
  cases hd : o.dst with
  | none => rw [hd] at h2; simp at h2
  | some d =>
    rw [hd] at h2
    simp only [Option.any_some, Bool.and_eq_true, decide_eq_true_eq] at h2
    refine ⟨d, rfl, h2.1, fun j oj hjn hj hoj => ?_, fun j hj => by simpa using List.all_eq_true.1 h3 j hj, ?_⟩
    · have h4 := List.all_eq_true.1 h2.2 j (List.mem_range.2 hjn)
      rw [hj] at h4
      simp only [Option.any_some, hoj, beq_self_eq_true, Bool.not_true, Bool.or_false, decide_eq_true_eq] at h4
      exact h4
    · obtain ⟨k, hk, h5⟩ := List.any_eq_true.1 h4
      rw [Bool.and_eq_true, decide_eq_true_eq] at h5
      cases hok : ops[k]? with
      | none => rw [hok] at h5; simp at h5
      | some ok =>
        rw [hok] at h5
        exact ⟨k, ok, h5.1, Nat.lt_succ_iff.1 (List.mem_range.1 hk), hok, by simpa using h5.2⟩
theorem zes {m : Nat} (h : growsS ops n m = true) : ops.size = n + 1 ∧ ∃ o, ops[n]? = some o ∧ o.guard = none ∧ ∀ j ∈ zcc o, j < n := by
  unfold growsS at h
  rw [Bool.and_eq_true, Bool.and_eq_true, decide_eq_true_eq] at h
  refine ⟨h.1.1, ?_⟩
  cases ho : ops[n]? with
  | none => have := h.1.2; rw [ho] at this; simp at this
  | some o =>
    have := h.1.2
    rw [ho] at this
    simp only [Option.any_some, Bool.and_eq_true, Option.isNone_iff_eq_none] at this
    exact ⟨o, rfl, this.1, fun j hj => by simpa using List.all_eq_true.1 this.2 j hj⟩
structure GrowInvS (ops : Array Oper) (n : Nat) (Φ : Nat → Value → World → Prop) (a0 : Act) (w0 : World) (listed : Array Bool) (a : Act) (w : World) : Prop where
  size : a.tmps.size = a0.tmps.size
  defers : a.defers = a0.defers
  below : Below w0.heap.size w0 w
  free : ∀ t, slotN ops n t = false → a.tmps[t]? = a0.tmps[t]?
  holds : ∀ j oj d, j < n → ops[j]? = some oj → listed[j]? = some true → oj.dst = some d → Φ j (a.tmps.getD d undef) w
  down : ∀ (i : Nat) (o : Oper), ops[i]? = some o → listed[i]? = some true → ∀ j ∈ zcc o, listed[j]? = some true
  last : listed[n]? = some false
theorem all_listed {m : Nat} {listed : Array Bool} (hg : growsS ops n m = true) (hlast : ∀ o, ops[n]? = some o → ∀ j ∈ zcc o, listed[j]? = some true) (hdown : ∀ (i : Nat) (o : Oper), ops[i]? = some o → listed[i]? = some true → ∀ j ∈ zcc o, listed[j]? = some true) :
    ∀ j, j < n → listed[j]? = some true := by
  have key : ∀ k j, n - k ≤ j → j < n → listed[j]? = some true := by
    intro k
    induction k with
    | zero => intro j h1 h2; omega
    | succ k ih =>
      intro j h1 h2
      rcases Nat.lt_or_ge j (n - k) with h | h
      · obtain ⟨hs, _⟩ := zes hg
        have hlt : j < ops.size := og
        obtain ⟨d, _, _, _, _, i, oi, hji, hin, hoi, hmem⟩ := zfb hg h2 (Array.getElem?_eq_getElem hlt)
        rcases Nat.lt_or_ge i n with h3 | h3
        · exact hdown i oi hoi (ih i og h3) j hmem
        · obtain rfl : i = n := og
          exact hlast oi hoi j hmem
      · exact ih j h h2
  exact fun j hj => key n j og hj
theorem wpAny_growS (hst : ∀ i v w w', Φ i v w → Below w.heap.size w w' → Φ i v w') (hg : growsS ops n a0.tmps.size = true)
    (hstep : ∀ i o, i < n → ops[i]? = some o → ∀ (a : Act) (w : World), a.tmps.size = a0.tmps.size → a.defers = a0.defers → Below w0.heap.size w0 w → (∀ t, slotN ops n t = false → a.tmps[t]? = a0.tmps[t]?) →
      (∀ j oj d, j ∈ zcc o → ops[j]? = some oj → oj.dst = some d → Φ j (a.tmps.getD d undef) w) →
      if Region.wanted o (yielded ops a.tmps) = true then o.wp P a w (fun a' w' => ∃ v, a' = a.put o.dst v ∧ Below w.heap.size w w' ∧ Φ i v w') Q else Φ i undef w)
    (hend : ∀ o, ops[n]? = some o → ∀ (a : Act) (w : World), a.tmps.size = a0.tmps.size → a.defers = a0.defers → Below w0.heap.size w0 w → (∀ t, slotN ops n t = false → a.tmps[t]? = a0.tmps[t]?) →
      (∀ j oj d, j < n → ops[j]? = some oj → oj.dst = some d → Φ j (a.tmps.getD d undef) w) → o.wp P a w (fun a' w' => Q .normal a' w') Q) :
    ∀ (fuel : Nat) (listed : Array Bool) (a : Act) (w : World), listed.size = ops.size → cntU listed.toList ≤ fuel → GrowInvS ops n Φ a0 w0 listed a w → wpAny P .any ops Q fuel listed a w := by
  obtain ⟨hsize, oL, hoL, hgL, hnL⟩ := zes hg
  have stuck : ∀ (listed : Array Bool) (a : Act) (w : World), listed.size = ops.size → Region.ready .any ops listed = [] → GrowInvS ops n Φ a0 w0 listed a w → False := by
    intro listed a w hsz hr inv
    have all : ∀ k i, i < k → i < n → listed[i]? = some true := by
      intro k
      induction k with
      | zero => intro i hi; omega
      | succ k ih =>
        intro i hi hlt
        rcases Nat.lt_or_ge i k with h | h
        · exact ih i h hlt
        · obtain rfl : i = k := og
          have hlo : i < ops.size := og
          have hl : i < listed.size := og
          cases hb : listed[i] with
          | true => rw [Array.getElem?_eq_getElem hl, hb]
          | false =>
            exfalso
            have hm : i ∈ Region.ready .any ops listed := by
              unfold Region.ready
              refine List.mem_filter.2 ⟨List.mem_range.2 hlo, ?_⟩
              have hi : ops[i]? = some ops[i] := Array.getElem?_eq_getElem hlo
              obtain ⟨d, hd, _, _, hn, _⟩ := zfb hg hlt hi
              rw [hi]
              simp only [Option.map_some, Option.getD_some, Bool.and_eq_true, Bool.not_eq_true']
              refine ⟨by simp [Array.getD_eq_getD_getElem?, Array.getElem?_eq_getElem hl, hb], Array.all_eq_true'.2 fun e he => ?_⟩
              cases hbd : Region.binds .any e with
              | false => rfl
              | true =>
                have hj := hn e.on (List.mem_map.2 ⟨e, List.mem_filter.2 ⟨by simpa using he, hbd⟩, rfl⟩)
                have := ih e.on hj og
                simp [Array.getD_eq_getD_getElem?, this]
            rw [hr] at hm
            cases hm
    have hm : n ∈ Region.ready .any ops listed := by
      unfold Region.ready
      refine List.mem_filter.2 ⟨List.mem_range.2 og, ?_⟩
      rw [hoL]
      simp only [Option.map_some, Option.getD_some, Bool.and_eq_true, Bool.not_eq_true']
      refine ⟨by rw [Array.getD_eq_getD_getElem?, inv.last]; rfl, Array.all_eq_true'.2 fun e he => ?_⟩
      cases hbd : Region.binds .any e with
      | false => rfl
      | true =>
        have hj := hnL e.on (List.mem_map.2 ⟨e, List.mem_filter.2 ⟨by simpa using he, hbd⟩, rfl⟩)
        have := all (e.on + 1) e.on og hj
        simp [Array.getD_eq_getD_getElem?, this]
    rw [hr] at hm
    cases hm
  have ended : ∀ (fuel : Nat) (listed : Array Bool) (a : Act) (w : World), listed.size = ops.size → (∀ j, j < ops.size → listed[j]? = some true) → Q .normal a w → wpAny P .any ops Q fuel listed a w := by
    intro fuel listed a w hsz hall hQ
    have hr : Region.ready .any ops listed = [] := by
      cases hr : Region.ready .any ops listed with
      | nil => rfl
      | cons i l =>
        exfalso
        have hm : i ∈ Region.ready .any ops listed := by rw [hr]; simp
        have hlt : i < ops.size := by
          unfold Region.ready at hm
          exact List.mem_range.1 (List.mem_filter.1 hm).1
        have h1 := (zeu (Array.getElem?_eq_getElem hlt) hm).1
        simp [Array.getD_eq_getD_getElem?, hall i hlt] at h1
    cases fuel with
    | zero => exact ⟨hr, hQ⟩
    | succ fuel => exact ⟨fun _ => hQ, fun i hm => by rw [hr] at hm; cases hm⟩
  intro fuel
  induction fuel with
  | zero =>
    intro listed a w hsz hc inv
    have hr : Region.ready .any ops listed = [] := by
      cases hr : Region.ready .any ops listed with
      | nil => rfl
      | cons i l =>
        exfalso
        have hm : i ∈ Region.ready .any ops listed := by rw [hr]; simp
        have hlt : i < ops.size := by
          unfold Region.ready at hm
          exact List.mem_range.1 (List.mem_filter.1 hm).1
        have h1 := (zeu (Array.getElem?_eq_getElem hlt) hm).1
        have hl : i < listed.size := og
        have h2 := cntU_zero (l := listed.toList) (i := i) (b := listed[i]) og (by simp [hl])
        simp [Array.getD_eq_getD_getElem?, Array.getElem?_eq_getElem hl, h2] at h1
    exact (stuck listed a w hsz hr inv).elim
  | succ fuel ih =>
    intro listed a w hsz hc inv
    refine ⟨fun hr => (stuck listed a w hsz hr inv).elim, fun i hm => ?_⟩
    have hlt : i < ops.size := by
      unfold Region.ready at hm
      exact List.mem_range.1 (List.mem_filter.1 hm).1
    have hi : ops[i]? = some ops[i] := Array.getElem?_eq_getElem hlt
    obtain ⟨h1, h2⟩ := zeu hi hm
    have hl : i < listed.size := og
    have hb : listed[i] = false := by simpa [Array.getD_eq_getD_getElem?, Array.getElem?_eq_getElem hl] using h1
    have need : ∀ j ∈ zcc ops[i], listed[j]? = some true := by
      intro j hj
      have h3 := h2 j hj
      rcases Nat.lt_or_ge j listed.size with hjl | hjl
      · rw [Array.getElem?_eq_getElem hjl]
        simp only [Array.getD_eq_getD_getElem?, Array.getElem?_eq_getElem hjl, Option.getD_some] at h3
        rw [h3]
      · simp [Array.getD_eq_getD_getElem?, Array.getElem?_eq_none hjl] at h3
    rcases Nat.lt_or_ge i n with hin | hin
    · obtain ⟨d, hd, hdn, hdu, _, _⟩ := zfb hg hin hi
      have hs := hstep i ops[i] hin hi a w inv.size inv.defers inv.below inv.free fun j oj dj hj hoj hdj => inv.holds j oj dj (by
        have := zfb hg hin hi
        obtain ⟨_, _, _, _, h5, _⟩ := this
        have := h5 j hj
        omega) hoj (need j hj) hdj
      have next : ∀ (v : Value) (w' : World), Below w.heap.size w w' → Φ i v w' → wpAny P .any ops Q fuel (listed.setIfInBounds i true) (a.put ops[i].dst v) w' := by
        intro v w' hbw hv
        rw [hd]
        refine ih _ _ _ (by simp [hsz]) ?_ ⟨by rw [put_size]; exact inv.size, inv.defers, inv.below.trans (hbw.mono inv.below.size), fun t ht => ?_, fun j oj dj hjn hj hlj hdj => ?_, fun k o hk hlk j hj => ?_, ?_⟩
        · have := cntU_set (l := listed.toList) (i := i) (by simp [hl, hb])
          simp only [Array.toList_setIfInBounds]
          omega
        · rw [put_other _ _ (by
            rintro rfl
            unfold slotN at ht
            rw [List.any_eq_false] at ht
            have := ht i (List.mem_range.2 hin)
            rw [hi] at this
            simp [hd] at this)]
          exact inv.free t ht
        · by_cases hji : j = i
          · subst hji
            rw [hi] at hj
            cases hj
            rw [hd] at hdj
            cases hdj
            rw [put_same _ _ (by rw [inv.size]; exact hdn)]
            exact hv
          · have hne : dj ≠ d := fun e => hji (hdu j oj hjn hj (by rw [hdj, e]))
            rw [getD_of (put_other a v hne)]
            refine hst _ _ _ _ (inv.holds j oj dj hjn hj ?_ hdj) hbw
            rwa [Array.getElem?_setIfInBounds_ne (Ne.symm hji)] at hlj
        · have hj' : listed[j]? = some true := by
            by_cases hki : k = i
            · subst hki
              rw [hi] at hk
              cases hk
              exact need j hj
            · rw [Array.getElem?_setIfInBounds_ne (Ne.symm hki)] at hlk
              exact inv.down k o hk hlk j hj
          by_cases hji : j = i
          · subst hji
            rw [Array.getElem?_setIfInBounds_self_of_lt hl]
          · rw [Array.getElem?_setIfInBounds_ne (Ne.symm hji)]
            exact hj'
        · rw [Array.getElem?_setIfInBounds_ne og]
          exact inv.last
      unfold wpOp
      rw [hi]
      simp only
      split
      · rename_i hw
        rw [if_pos hw] at hs
        exact .inl (Oper.wp_mono (fun a' w' ⟨v, ha, hbw, hv⟩ => by rw [ha]; exact next v w' hbw hv) hs)
      · rename_i hw
        rw [if_neg hw] at hs
        exact next undef w (Below.refl _ _) hs
    · obtain rfl : i = n := og
      have hoi : ops[i] = oL := by rw [hi] at hoL; exact Option.some.inj hoL
      have hall := all_listed hg (fun o ho j hj => by rw [hi] at ho; cases ho; exact need j hj) inv.down
      have hs := hend ops[i] hi a w inv.size inv.defers inv.below inv.free fun j oj dj hjn hoj hdj => inv.holds j oj dj hjn hoj (hall j hjn) hdj
      unfold wpOp
      rw [hi]
      simp only
      have hw : Region.wanted ops[i] (yielded ops a.tmps) = true := by rw [hoi]; unfold Region.wanted; rw [hgL]
      rw [if_pos hw]
      refine .inl (Oper.wp_mono (fun a' w' hQ => ended _ _ _ _ (by simp [hsz]) (fun j hj => ?_) hQ) hs)
      by_cases hji : j = i
      · subst hji
        rw [Array.getElem?_setIfInBounds_self_of_lt hl]
      · rw [Array.getElem?_setIfInBounds_ne (Ne.symm hji)]
        exact hall j og
theorem wp_region_growS {id : Nat} (n : Nat) (Φ : Nat → Value → World → Prop) (hm : P.follows .mixedOrders = true) (hst : ∀ i v w w', Φ i v w → Below w.heap.size w w' → Φ i v w') (hg : growsS ops n a0.tmps.size = true)
    (hstep : ∀ i o, i < n → ops[i]? = some o → ∀ (a : Act) (w : World), a.tmps.size = a0.tmps.size → a.defers = a0.defers → Below w0.heap.size w0 w → (∀ t, slotN ops n t = false → a.tmps[t]? = a0.tmps[t]?) →
      (∀ j oj d, j ∈ zcc o → ops[j]? = some oj → oj.dst = some d → Φ j (a.tmps.getD d undef) w) →
      if Region.wanted o (yielded ops a.tmps) = true then o.wp P a w (fun a' w' => ∃ v, a' = a.put o.dst v ∧ Below w.heap.size w w' ∧ Φ i v w') Q else Φ i undef w)
    (hend : ∀ o, ops[n]? = some o → ∀ (a : Act) (w : World), a.tmps.size = a0.tmps.size → a.defers = a0.defers → Below w0.heap.size w0 w → (∀ t, slotN ops n t = false → a.tmps[t]? = a0.tmps[t]?) →
      (∀ j oj d, j < n → ops[j]? = some oj → oj.dst = some d → Φ j (a.tmps.getD d undef) w) → o.wp P a w (fun a' w' => Q .normal a' w') Q) :
    (Code.region id ops true).wp P Q a0 w0 := by
  have hs := (zes hg).1
  refine wp_region_any hm (wpAny_growS hst hg hstep hend _ _ _ _ (by simp) (by simp [cntU_replicate]) ⟨rfl, rfl, ⟨rfl, rfl, rfl, Nat.le_refl _, fun _ _ => rfl⟩, fun _ _ => rfl, fun j oj d hjn hj hlj hd => ?_, fun i o hi hl => ?_, ?_⟩)
  · rw [Array.getElem?_replicate] at hlj
    split at hlj <;> cases hlj
  · rw [Array.getElem?_replicate] at hl
    split at hl <;> cases hl
  · rw [Array.getElem?_replicate, if_pos og]
end
theorem slot_some {T : Array Value} {t : Nat} {v : Value} (h : t < T.size) (hv : T.getD t undef = v) : T[t]? = some v := by
  rw [Array.getElem?_eq_getElem h]
  simp only [Array.getD_eq_getD_getElem?, Array.getElem?_eq_getElem h, Option.getD_some] at hv
  rw [hv]
theorem slot_ex {T : Array Value} {t : Nat} (h : t < T.size) : ∃ v, T[t]? = some v ∧ T.getD t undef = v := ⟨_, slot_some h rfl, rfl⟩
theorem zdz {o : Oper} {ops : Array Oper} {T : Array Value} {A B : Prop} (hg : o.guard = none) (h : A) :
    if Region.wanted o (yielded ops T) = true then A else B := by
  rw [if_pos (by simp [Region.wanted, hg])]
  exact h
theorem region_abs {P : Program} {id : Nat} {lit : Array Oper} {d : Bool} {Q : Exit → Act → World → Prop} {a : Act} {w : World} (h : ∀ ops, ops = lit → (Code.region id ops d).wp P Q a w) : (Code.region id lit d).wp P Q a w := h lit rfl
theorem op_at {ops lit : Array Oper} {j : Nat} {o : Oper} (h : ops = lit) (ho : lit[j]? = some o) : ops[j]? = some o := by rw [h]; exact ho
theorem slotN_abs {ops lit : Array Oper} {n : Nat} (h : ops = lit) (t : Nat) (hs : slotN lit n t = false) : slotN ops n t = false := by rw [h]; exact hs
theorem odt {p : Prop} [Decidable p] (h : decide p = true) : p := of_decide_eq_true h
theorem zdn {P : Program} {o : Oper} {a : Act} {w : World} {Φ : Value → World → Prop} {Q : Exit → Act → World → Prop} (h : ∀ K : Act → World → Prop, (∀ v w', Below w.heap.size w w' → Φ v w' → K (a.put o.dst v) w') → o.wp P a w K Q) : o.wp P a w (fun a' w' => ∃ v, a' = a.put o.dst v ∧ Below w.heap.size w w' ∧ Φ v w') Q :=
  h _ fun v w' hb hv => ⟨v, rfl, hb, hv⟩
theorem last_k {P : Program} {o : Oper} {a : Act} {w : World} {Q : Exit → Act → World → Prop} (h : ∀ K : Act → World → Prop, (∀ a w, Q .normal a w → K a w) → o.wp P a w K Q) : o.wp P a w (fun a' w' => Q .normal a' w') Q := h _ fun _ _ h => h
section
variable {ops : Array Oper}
end
section
variable {P : Program} {ops : Array Oper} {Q : Exit → Act → World → Prop} {Φ : Nat → Value → World → (Nat → Option Value) → Prop} {Pre : Nat → World → Prop} {J : World → Prop} {E : Nat → World → World → Prop} {a0 : Act} {w0 : World} {n : Nat}
end
theorem grown_refl (w : World) (r : Option Nat) : w.grownBy w r := ⟨rfl, rfl, rfl, Nat.le_refl _, fun _ _ _ => rfl⟩
theorem grown_trans {a b c : World} {r : Option Nat} (h : a.grownBy b r) (k : b.grownBy c r) : a.grownBy c r :=
  ⟨k.os.trans h.os, k.tape.trans h.tape, k.output.trans h.output, Nat.le_trans h.size k.size, fun j hj hr => (k.block j (Nat.lt_of_lt_of_le hj h.size) hr).trans (h.block j hj hr)⟩
theorem same_grownS {w w' : World} {r : Option Nat} {S : Nat → Prop} (hg : w.grownBy w' r) (hS : ∀ b, S b → b < w.heap.size ∧ some b ≠ r) : Same S S w w' := fun b hb => ⟨hb, fun o => World.cell?_of_block (hg.block b (hS b hb).1 (hS b hb).2)⟩
theorem OwnS.own_lt {α : Type} {n : Nat} {t : TypeId} {R : World → (Nat → Prop) → Value → α → Prop} {w : World} {base : Nat} {S : Nat → Prop} {v : Value} {l : List α} (h : OwnS n t R w base S v l) : ∀ b, v.ownBlock = some b → base ≤ b ∧ b < w.heap.size := by
  obtain ⟨es, h1, _⟩ := h
  exact fun b hb => h1.lt b hb
theorem OwnS.grown {α : Type} {n : Nat} {t : TypeId} {R : World → (Nat → Prop) → Value → α → Prop} (hR : Stb R) {w w' : World} {base : Nat} {S : Nat → Prop} {v : Value} {l : List α} {r : Option Nat} (h : OwnS n t R w base S v l)
    (hb : w.grownBy w' r) (hr : ∀ b, r = some b → v.ownBlock ≠ some b ∧ ¬ S b) : OwnS n t R w' base S v l := by
  obtain ⟨es, h1, h2, h3, h4⟩ := h
  have hne : v.ownBlock = none ∨ v.ownBlock ≠ r := by
    cases r with
    | none => cases v.ownBlock <;> simp
    | some b => exact .inr (hr b rfl).1
  refine ⟨es, h1.kept hb hne, h2, h3.imp fun x y h => hR.to h (same_grownS hb fun b hb' => ⟨(h4 b hb').1, fun e => (hr b e.symm).2 hb'⟩), fun b hb' => ⟨Nat.lt_of_lt_of_le (h4 b hb').1 hb.size, (h4 b hb').2⟩⟩
theorem Row.grownN {w w' : World} {g : Nat} {t : TypeId} {xs : List Value} {r : Option Nat} (h : Row w g t xs) (hb : w.grownBy w' r) (hr : ∀ b, r = some b → g ≠ b) : Row w' g t xs := h.grown hb (fun e => hr g e.symm rfl)
theorem IsD.grownN {w w' : World} {g : Nat} {l : List Int} {r : Option Nat} (h : IsD w g l) (hb : w.grownBy w' r) (hr : ∀ b, r = some b → g < b) : IsD w' g l := by
  cases r with
  | none =>
    have hl := h.lt
    obtain ⟨A, c, k, h1, h2, h3⟩ := h
    exact ⟨A, c, k, h1.grown hb (by simp), IsIL.stb.to h2 (same_grownS hb fun b hb' => ⟨by omega, by simp⟩), h3⟩
  | some b => exact h.grown hb (hr b rfl)
structure Kept (r1 r2 r3 : Option Nat) (w w' : World) : Prop where
  os : w'.os = w.os
  tape : w'.tape = w.tape
  output : w'.output = w.output
  size : w.heap.size ≤ w'.heap.size
  block : ∀ k, k < w.heap.size → some k ≠ r1 → some k ≠ r2 → some k ≠ r3 → w'.heap[k]? = w.heap[k]?
theorem Kept.refl (r1 r2 r3 : Option Nat) (w : World) : Kept r1 r2 r3 w w := ⟨rfl, rfl, rfl, Nat.le_refl _, fun _ _ _ _ _ => rfl⟩
theorem Kept.step {r1 r2 r3 : Option Nat} {a b c : World} {r : Option Nat} (h : Kept r1 r2 r3 a b) (k : b.grownBy c r) (hr : r = none ∨ r = r1 ∨ r = r2 ∨ r = r3) : Kept r1 r2 r3 a c :=
  ⟨k.os.trans h.os, k.tape.trans h.tape, k.output.trans h.output, Nat.le_trans h.size k.size, fun j hj n1 n2 n3 => (k.block j (Nat.lt_of_lt_of_le hj h.size) (by rcases hr with rfl | rfl | rfl | rfl; simp; exact n1; exact n2; exact n3)).trans (h.block j hj n1 n2 n3)⟩
theorem kept_same {r1 r2 r3 : Option Nat} {w w' : World} {S : Nat → Prop} (h : Kept r1 r2 r3 w w') (hS : ∀ b, S b → b < w.heap.size ∧ some b ≠ r1 ∧ some b ≠ r2 ∧ some b ≠ r3) : Same S S w w' := fun b hb => ⟨hb, fun o => World.cell?_of_block (h.block b (hS b hb).1 (hS b hb).2.1 (hS b hb).2.2.1 (hS b hb).2.2.2)⟩
theorem step_appG {P : Program} {w : World} {o : Oper} {a : Act} {K : Act → World → Prop} {Q : Exit → Act → World → Prop} {t e : TypeId} {n bytes : Nat} (El : ElN P t e n bytes) (s x : Operand) (ho : o.op = .call { callee := .builtin .append, args := #[s, x], argTypes := #[t, t] })
    {α : Type} {R : World → (Nat → Prop) → Value → α → Prop} (hR : Stb R) {base h : Nat} {S : Nat → Prop} {v ev : Value} {l : List α} {y : α} {te : TypeId}
    (hs : a.eval s = v) (hx : a.eval x = .slice (some ⟨h, 0, none⟩) 1 1) (hr : Row w h te ev.cells.toList) (hown : OwnS n e R w base S v l) (he : R w S ev y) (hn : ev.cells.size = n)
    (h1 : ∀ u ∈ ev.cells, u.oneCell' = true) (hb : (l.length + 1) * (bytes + 1) ≤ 140737488355328) (hbase : base ≤ w.heap.size)
    (hK : ∀ v' w', OwnS n e R w' base S v' (l ++ [y]) → w.grownBy w' v.ownBlock → (v'.ownBlock = v.ownBlock ∨ v'.ownBlock = some w.heap.size) → K (a.put o.dst v') w') : o.wp P a w K Q := by
  obtain ⟨i, z, hi, hz, hsz, hby, hzc⟩ := El.info
  obtain ⟨es, h1', h2, h3, h4⟩ := hown
  rw [Nat.mul_add, Nat.mul_one] at hb
  obtain ⟨v', w', hrun, g1, g2, _, g4⟩ := run_append_own_at (P := P) w base t o.type e i z n bytes El.und hi hz hsz hby hzc El.pos v l.length (cellsOf es) h1' ⟨h, 0, none⟩ 1 1 ev.cells.toList (by simp [hn])
    (fun j u hu => by rw [Addr.add_lit, Nat.zero_add, hr.cell j]; exact hu) (by simpa using h1) (by unfold maxLen; omega) og hbase
  unfold Oper.wp execOp
  simp only [ho, resolve, invoke, builtin, Sem.run_bind, Sem.run_pure, Result.andThen_ok, List.map_toArray, List.map_cons, List.map_nil, hs, hx, hrun]
  exact hK v' w' (OwnS.app hR h2 h3 h4 he hn g1 g2 g4) g2 g4
def NewRow (w : World) (n0 : Nat) (t : TypeId) (xs : List Value) (v : Value) : Prop := ∃ h, v = .slice (some ⟨h, 0, none⟩) 1 1 ∧ n0 ≤ h ∧ Row w h t xs
theorem NewRow.grown {w w' : World} {n0 : Nat} {t : TypeId} {xs : List Value} {v : Value} {r : Option Nat} (h : NewRow w n0 t xs v) (hb : w.grownBy w' r) (hr : ∀ b, r = some b → b < n0) : NewRow w' n0 t xs v := by
  obtain ⟨g, e, h1, h2⟩ := h
  exact ⟨g, e, h1, h2.grownN hb fun b e => by have := hr b e; omega⟩
theorem Row.kept {w w' : World} {g : Nat} {t : TypeId} {xs : List Value} {r1 r2 r3 : Option Nat} (h : Row w g t xs) (k : Kept r1 r2 r3 w w') (h1 : r1 ≠ some g) (h2 : r2 ≠ some g) (h3 : r3 ≠ some g) : Row w' g t xs := (k.block g h.lt (Ne.symm h1) (Ne.symm h2) (Ne.symm h3)).trans h
section
variable {α : Type} {n bytes : Nat} {t e : TypeId} {R : World → (Nat → Prop) → Value → α → Prop} {o : Oper} {a : Act} {K : Act → World → Prop} {Q : Exit → Act → World → Prop} {wr w4 : World} {base : Nat} {S T : Nat → Prop} {v ev : Value} {l : List α} {y : α} {te : TypeId} {cs : Array Value}
def SNew (S : Nat → Prop) (wr w4 : World) : Nat → Prop := fun b => S b ∨ (wr.heap.size ≤ b ∧ b < w4.heap.size)
theorem step_appX (El : ElN Tryz.prog t e n bytes) (hR : Stb R) (s x : Operand) (ho : o.op = .call { callee := .builtin .append, args := #[s, x], argTypes := #[t, t] })
    (hs : a.eval s = v) (hx : a.eval x = .slice (some ⟨w4.heap.size, 0, none⟩) 1 1) (hcs : cs = ev.cells) (hown : OwnS n e R wr base S v l) (hb : Below wr.heap.size wr w4) (he : R w4 T ev y) (hT : ∀ b, T b → wr.heap.size ≤ b ∧ b < w4.heap.size)
    (hn : ev.cells.size = n) (h1 : ∀ u ∈ ev.cells, u.oneCell' = true) (hl : (l.length + 1) * (bytes + 1) ≤ 140737488355328) (hbase : base ≤ wr.heap.size)
    (hK : ∀ v' w', OwnS n e R w' base (SNew S wr w4) v' (l ++ [y]) → wr.grownBy w' v.ownBlock → (v'.ownBlock = v.ownBlock ∨ ∃ g, v'.ownBlock = some g ∧ w4.heap.size ≤ g ∧ g < w'.heap.size) → w4.heap.size ≤ w'.heap.size → K (a.put o.dst v') w') :
    o.wp Tryz.prog a (w4.alloc (.cells cs te)) K Q := by
  subst hcs
  have hn4 := zaq w4 (.cells ev.cells te)
  have hz4 := hn4.size
  have hlt : ∀ b, v.ownBlock = some b → b < wr.heap.size := fun b e => (hown.own_lt b e).2
  refine step_appG (h := w4.heap.size) (te := te) (S := SNew S wr w4) (base := base) (l := l) (y := y) (ev := ev) El s x ho hR hs hx ?_ ?_ ?_ hn h1 hl (Nat.le_trans hbase (Nat.le_trans hb.size hz4)) fun v' w' k1 k2 k3 => hK v' w' k1 ?_ ?_ (Nat.le_trans hz4 k2.size)
  · exact heap_alloc_new w4 _
  · exact OwnS.step hR hown (zaa hb hn4) (fun b h => .inl h) fun b h => h.imp id fun h => ⟨h.1, Nat.lt_of_lt_of_le h.2 hz4⟩
  · exact hR.to he fun b h => ⟨.inr (hT b h), fun o => hn4.cell (p := ⟨b, o, none⟩) (hT b h).2⟩
  · exact grown_trans (grown_below (zaa hb hn4)) k2
  · refine k3.imp id fun h => ⟨_, h, ?_, ?_⟩
    · exact hz4
    · have := k2.size
      obtain ⟨es, h1', _⟩ := k1
      exact (h1'.lt _ h).2
end
theorem Own.low {w w' : World} {base r : Nat} {e : TypeId} {v : Value} {xs : List Value} (h : Own w base e v xs) (hg : w.grownBy w' (some r)) (hr : r < base) : Own w' base e v xs := by
  refine World.ownsRow.kept (row := some r) h hg (.inr ?_)
  intro e1
  rcases h.2 with ⟨rfl, _⟩ | ⟨g, cap, cur, rfl, hb, _⟩
  · simp [Value.ownBlock] at e1
  · simp only [Value.ownBlock, Option.some.injEq] at e1
    omega
theorem zdg (w : World) (g o : Nat) (a : Value) : w.grownBy (w.setCell ⟨g, o, none⟩ a) (some g) :=
  ⟨rfl, rfl, rfl, by simp [World.setCell], fun k hk hne => by
    have hk : k ≠ g := fun e => hne (by rw [e])
    rw [Below.heap_setCell _ _ _ _ hk]⟩
def FI (w : World) (l : List Int) (vS vP : Value) (sz : List Nat) (wr : World) : Prop :=
  IsD wr (w.heap.size + 1) l ∧ Row wr (w.heap.size + 1 + 1) 64 [vS, vP] ∧ Row wr w.heap.size 64 [.slice none 0 0, .slice none 0 0] ∧ Own wr (w.heap.size + 3) 3 vS (cel .i64 sz) ∧ Below w.heap.size w wr
theorem FI.size {w wr : World} {l : List Int} {vS vP : Value} {sz : List Nat} (h : FI w l vS vP sz wr) : w.heap.size + 3 ≤ wr.heap.size := h.2.1.lt
theorem FI.grown {w wr w' : World} {l : List Int} {vS vP : Value} {sz : List Nat} (h : FI w l vS vP sz wr) (hd : IsD w' (w.heap.size + 1) l) (hg : wr.grownBy w' (some (w.heap.size + 1))) : FI w l vS vP sz w' :=
  ⟨hd, Row.grownN h.2.1 hg (fun b e => by cases e; omega), Row.grownN h.2.2.1 hg (fun b e => by cases e; omega), h.2.2.2.1.low hg (by omega), h.2.2.2.2.grown hg (Nat.le_of_lt h.2.2.1.lt) (fun b e => by cases e; omega)⟩
theorem FI.next {w wr w' : World} {l : List Int} {vS vP : Value} {sz : List Nat} (h : FI w l vS vP sz wr) (hb : Below (w.heap.size + 3) wr w') (ho : Own w' (w.heap.size + 3) 3 vS (cel .i64 sz)) : FI w l vS vP sz w' :=
  ⟨h.1.next hb (by omega), h.2.1.below hb (by omega), h.2.2.1.below hb (by omega), ho, h.2.2.2.2.trans (hb.mono (by omega))⟩
theorem FI.set0 {w wr : World} {l : List Int} {vS vP u : Value} {sz sz' : List Nat} (h : FI w l vS vP sz wr) (ho : Own wr (w.heap.size + 3) 3 u (cel .i64 sz')) : FI w l u vP sz' (wr.setCell ⟨w.heap.size + 1 + 1, 0, none⟩ u) :=
  ⟨h.1.far (p := ⟨w.heap.size + 1 + 1, 0, none⟩) (by show w.heap.size + 1 < w.heap.size + 1 + 1; omega) u, h.2.1.set_ 0 u, h.2.2.1.far (p := ⟨w.heap.size + 1 + 1, 0, none⟩) (by show w.heap.size ≠ w.heap.size + 1 + 1; omega) u, ho.low (zdg _ _ _ _) (by omega), h.2.2.2.2.setCell (p := ⟨w.heap.size + 1 + 1, 0, none⟩) (by show w.heap.size ≤ w.heap.size + 1 + 1; omega) u⟩
theorem FI.set1 {w wr : World} {l : List Int} {vS vP u : Value} {sz : List Nat} (h : FI w l vS vP sz wr) : FI w l vS u sz (wr.setCell ⟨w.heap.size + 1 + 1, 1, none⟩ u) :=
  ⟨h.1.far (p := ⟨w.heap.size + 1 + 1, 1, none⟩) (by show w.heap.size + 1 < w.heap.size + 1 + 1; omega) u, h.2.1.set_ 1 u, h.2.2.1.far (p := ⟨w.heap.size + 1 + 1, 1, none⟩) (by show w.heap.size ≠ w.heap.size + 1 + 1; omega) u, h.2.2.2.1.low (zdg _ _ _ _) (by omega), h.2.2.2.2.setCell (p := ⟨w.heap.size + 1 + 1, 1, none⟩) (by show w.heap.size ≤ w.heap.size + 1 + 1; omega) u⟩
theorem FI.app0 {w wr w' : World} {l : List Int} {vS vP u : Value} {sz sz' : List Nat} (h : FI w l vS vP sz wr) (hb : Below (w.heap.size + 3) wr w') (ho : Own w' (w.heap.size + 3) 3 u (cel .i64 sz')) : FI w l u vP sz' (w'.setCell ⟨w.heap.size + 1 + 1, 0, none⟩ u) :=
  ⟨(h.1.next hb (by omega)).far (p := ⟨w.heap.size + 1 + 1, 0, none⟩) (by show w.heap.size + 1 < w.heap.size + 1 + 1; omega) u, (h.2.1.below hb (by omega)).set_ 0 u, (h.2.2.1.below hb (by omega)).far (p := ⟨w.heap.size + 1 + 1, 0, none⟩) (by show w.heap.size ≠ w.heap.size + 1 + 1; omega) u, ho.low (zdg _ _ _ _) (by omega), (h.2.2.2.2.trans (hb.mono (by omega))).setCell (p := ⟨w.heap.size + 1 + 1, 0, none⟩) (by show w.heap.size ≤ w.heap.size + 1 + 1; omega) u⟩
theorem cel_app (k : IntKind) (l : List Nat) (n : Nat) : cel k (l ++ [n]) = cel k l ++ [.int k (n : Int)] := by simp [cel]
theorem own_sl {w : World} {base : Nat} {e : TypeId} {v : Value} {xs : List Value} (h : Own w base e v xs) : ∃ a c, v = .slice a xs.length c := by
  rcases h.2 with ⟨rfl, h0⟩ | ⟨g, cap, cur, rfl, _⟩
  · exact ⟨none, 0, by rw [h0]⟩
  · exact ⟨_, _, rfl⟩
theorem prd_snoc (l : List Nat) (x : Nat) : prd (l ++ [x]) = prd l * x := by
  rw [zee (l ++ [x]) l.length, List.take_left, List.drop_left, zco, prd_nil, Nat.mul_one]
theorem kept_far {r1 r2 r3 r : Option Nat} {a b c : World} (h : Kept r1 r2 r3 a b) (k : b.grownBy c r) (hr : ∀ x, r = some x → a.heap.size ≤ x) : Kept r1 r2 r3 a c :=
  ⟨k.os.trans h.os, k.tape.trans h.tape, k.output.trans h.output, Nat.le_trans h.size k.size, fun j hj n1 n2 n3 => (k.block j (Nat.lt_of_lt_of_le hj h.size) (fun e => by have := hr j e.symm; omega)).trans (h.block j hj n1 n2 n3)⟩
theorem vecR_info : (Tryz.prog.info? 25).map (fun i => (i.zero, i.size, i.bytes)) = some (some (.slice none 0 0), 1, 24) := by kernel_rfl
theorem elVN : ElN Tryz.prog 62 25 1 24 :=
  ⟨Tryz.underlying62, by obtain ⟨i, h1, h2, h3, h4⟩ := info_parts vecR_info; exact ⟨i, _, h1, h2, h3, h4, rfl⟩, by omega⟩
theorem grown_far {a b c : World} {r : Option Nat} (h : a.grownBy b r) (k : Below a.heap.size b c) : a.grownBy c r :=
  ⟨k.os.trans h.os, k.tape.trans h.tape, k.output.trans h.output, Nat.le_trans h.size k.size, fun j hj hr => (k.block j hj).trans (h.block j hj hr)⟩
def ivs (l : List Int) : List Value := l.map fun x => .int .i64 x
set_option maxRecDepth 100000 in
set_option maxHeartbeats 4000000 in
theorem form25_l {w : World} {A : Option Addr} {c : Nat} {l : List Int} {pl : Int} (hl : IsIL w (Old w) (.slice A l.length c) l) (hp : In64 pl) :
    Calls Tryz.prog 31 #[.slice A l.length c, .int .i64 pl, .bool false] w fun e w' => ∃ sz zs, RetN w sz (zbh zs) e w' ∧ FormZ sz zs ∧ 2 ≤ sz.length := by
  have HL := Lib.hid hl
  have HP := Lib.hid hp
  obtain ⟨w0, hw0, hb0, rR, rD, rN, Hz⟩ := zde w #[.slice none 0 0, .slice none 0 0] #[.slice A l.length c, .int .i64 0] #[.slice none 0 0, .slice none 0 0] 64 131 64
  have D0 : Hid (IsD w0 (w.heap.size + 1) l) := ⟨A, c, 0, rD, IsIL.stb.to HL.out (zdj hb0 fun b h => h) |> fun h => IsIL.stb.to h (zav fun b h => (by have h' : b < w.heap.size := h; omega)), Nat.zero_le _⟩
  have B0 := Lib.hid hb0
  have RR := Lib.hid rR
  have RN := Lib.hid rN
  obtain ⟨x, hx⟩ : ∃ x : Int, pl % 2 = x := ⟨_, rfl⟩
  obtain ⟨M, hM⟩ : ∃ M : Nat, 2 + x = (M : Int) := ⟨(2 + x).toNat, by omega⟩
  have HM : Hid (2 ≤ M ∧ M ≤ 3) := by rw [Hid]; omega
  have hx1 : IntKind.i64.wrap (2 + x) = (M : Int) := by rw [IntKind.wrap_i64]; omega
  have Hx := Lib.hid hx
  obtain ⟨n0, n1⟩ := row2 rN
  obtain ⟨f0, f1⟩ := (⟨rN.frozen 0, rN.frozen 1⟩ : w0.frozen? ⟨w.heap.size + 1 + 1, 0, none⟩ = false ∧ w0.frozen? ⟨w.heap.size + 1 + 1, 1, none⟩ = false)
  clear hb0 rR rD rN hl hp hx hM
  go_enter Tryz.func31, Tryz.ntmps31
  go_wp2_with fail
  have F0 : Hid (FI w l (.slice none 0 0) (.slice none 0 0) [] (pn2 w0 (w.heap.size + 1 + 1) (.slice none 0 0) (.slice none 0 0))) := by
    have h : FI w l (.slice none 0 0) (.slice none 0 0) [] w0 := ⟨D0.out, RN.out, RR.out, Own.nil _ _ _, B0.out⟩
    exact (h.set0 (Own.nil _ _ _)).set1
  clear hw0 n0 n1 f0 f1 D0 RR RN B0
  refine (mod_n _ pl 2 HP.out.1 HP.out.2 (by omega) (by omega)).mono ?_
  rw [Hx.out]
  rintro e w1 ⟨rfl, hw1⟩
  replace hw1 : pn2 w0 (w.heap.size + 1 + 1) (.slice none 0 0) (.slice none 0 0) = w1 := hw1
  rw [hw1] at F0
  clear hw1
  go_wp2_with fail
  go_loopw [9, 11, 12] (fun al p s wr => ∃ (k : Nat) (sz : List Nat) (vS : Value), k ≤ M ∧ al = .int .i64 ((prd sz : Nat) : Int) ∧ p = .int .i64 ((k : Nat) : Int) ∧ FI w l vS (.slice none 0 0) sz wr ∧ Hid (sz.length = k ∧ ∀ x ∈ sz, 1 ≤ x ∧ x ≤ 3)) (fun _ p _ _ => M - (intOf p).toNat)
  case atStart => exact ⟨0, [], _, by omega, rfl, rfl, F0.out, rfl, by simp⟩
  case round =>
    obtain ⟨k, sz, vS, hk, rfl, rfl, hF, hsz⟩ := hrel
    have FF := Lib.hid hF
    clear hF F0 hx1
    rcases Nat.lt_or_ge k M with hlt | hge
    · go_wp2_with fail
      refine (next_i FF.out.1 3 (by omega) (by omega)).mono ?_
      rintro e w2 ⟨⟨y, hy0, hy3, rfl⟩, hD, hO⟩
      obtain ⟨s, hs⟩ : ∃ s : Nat, 1 + y = (s : Int) := ⟨(1 + y).toNat, by omega⟩
      have hy1 : IntKind.i64.wrap (1 + y) = (s : Int) := by rw [IntKind.wrap_i64]; omega
      have HS : Hid (1 ≤ s ∧ s ≤ 3) := by rw [Hid]; omega
      have F2 := Lib.hid (FF.out.grown hD hO.grown)
      clear hs hD hO
      have HK : Hid (k < M) := hlt
      rcases (show (k = 2 ∧ s = 3) ∨ (k = 2 ∧ s ≤ 2) ∨ k ≠ 2 by have := HS.out; omega) with ⟨rfl, rfl⟩ | ⟨rfl, hs2⟩ | hk2
      · have q1 : (2 : Int) < ((3 : Nat) : Int) := by omega
        have q2 : ¬ ((3 : Nat) : Int) < 2 := by omega
        have hmul : IntKind.i64.wrap (((prd sz : Nat) : Int) * 2) = ((prd (sz ++ [2]) : Nat) : Int) := by
          have h1 := hsz.out
          have h2 := (prd_le3 (fun x hx => (h1.2 x hx).2) (by have := HM.out; omega)).1
          rw [prd_snoc, IntKind.wrap_i64, Int.natCast_mul]
          have h3 : prd sz * 2 ≤ 27 * 3 := Nat.mul_le_mul h2 (by have := HS.out; omega)
          have h4 : ((prd sz * 2 : Nat) : Int) = (prd sz : Int) * (2 : Int) := by rw [Int.natCast_mul]; rfl
          omega
        obtain ⟨n0, n1⟩ := row2 F2.out.2.1
        obtain ⟨f0, f1⟩ := (⟨F2.out.2.1.frozen 0, F2.out.2.1.frozen 1⟩ : w2.frozen? ⟨w.heap.size + 1 + 1, 0, none⟩ = false ∧ w2.frozen? ⟨w.heap.size + 1 + 1, 1, none⟩ = false)
        have hown := F2.out.2.2.2.1
        have hbase := F2.out.size
        have hln : (cel .i64 sz).length ≤ 4 := by rw [zal, hsz.out.1]; have := HM.out; omega
        go_wp2_with (at_builtin; refine zbp elI1 rfl _ _ rfl rfl hown rfl rfl (by omega) hbase ?_; intro v3 w3 hown3 hbw3 hz3; obtain ⟨a3, c3, e3⟩ : ∃ a c, v3 = .slice a ((cel .i64 sz).length + 1) c := (by obtain ⟨a, c, e⟩ := own_sl hown3; exact ⟨a, c, by rw [e, List.length_append]; rfl⟩); subst e3; clear n0 n1 f0 f1; obtain ⟨n0, n1⟩ := row2 (F2.out.2.1.below hbw3 (by omega)); obtain ⟨f0, f1⟩ := (⟨(F2.out.2.1.below hbw3 (by omega)).frozen 0, (F2.out.2.1.below hbw3 (by omega)).frozen 1⟩ : w3.frozen? ⟨w.heap.size + 1 + 1, 0, none⟩ = false ∧ w3.frozen? ⟨w.heap.size + 1 + 1, 1, none⟩ = false))
        have F3 : FI w l (.slice a3 ((cel .i64 sz).length + 1) c3) (.slice none 0 0) (sz ++ [2]) (w3.setCell ⟨w.heap.size + 1 + 1, 0, none⟩ (.slice a3 ((cel .i64 sz).length + 1) c3)) := F2.out.app0 hbw3 (by rw [cel_app]; exact hown3)
        go_roundw
        case rel => exact ⟨2 + 1, sz ++ [2], _, by have := HK.out; omega, rfl, by go_num, F3, by rw [List.length_append, hsz.out.1]; rfl, by intro x hx; rcases List.mem_append.1 hx with h | h; exact hsz.out.2 x h; (rw [List.mem_singleton] at h; omega)⟩
        case measure => have := HK.out; simp [intOf]; omega
      · have q1 : ¬ (2 : Int) < (s : Int) := by omega
        have hmul : IntKind.i64.wrap (((prd sz : Nat) : Int) * (s : Int)) = ((prd (sz ++ [s]) : Nat) : Int) := by
          have h1 := hsz.out
          have h2 := (prd_le3 (fun x hx => (h1.2 x hx).2) (by have := HM.out; omega)).1
          rw [prd_snoc, IntKind.wrap_i64, Int.natCast_mul]
          have h3 : prd sz * s ≤ 27 * 3 := Nat.mul_le_mul h2 (by have := HS.out; omega)
          have h4 : ((prd sz * s : Nat) : Int) = (prd sz : Int) * (s : Int) := by rw [Int.natCast_mul]
          omega
        obtain ⟨n0, n1⟩ := row2 F2.out.2.1
        obtain ⟨f0, f1⟩ := (⟨F2.out.2.1.frozen 0, F2.out.2.1.frozen 1⟩ : w2.frozen? ⟨w.heap.size + 1 + 1, 0, none⟩ = false ∧ w2.frozen? ⟨w.heap.size + 1 + 1, 1, none⟩ = false)
        have hown := F2.out.2.2.2.1
        have hbase := F2.out.size
        have hln : (cel .i64 sz).length ≤ 4 := by rw [zal, hsz.out.1]; have := HM.out; omega
        go_wp2_with (at_builtin; refine zbp elI1 rfl _ _ rfl rfl hown rfl rfl (by omega) hbase ?_; intro v3 w3 hown3 hbw3 hz3; obtain ⟨a3, c3, e3⟩ : ∃ a c, v3 = .slice a ((cel .i64 sz).length + 1) c := (by obtain ⟨a, c, e⟩ := own_sl hown3; exact ⟨a, c, by rw [e, List.length_append]; rfl⟩); subst e3; clear n0 n1 f0 f1; obtain ⟨n0, n1⟩ := row2 (F2.out.2.1.below hbw3 (by omega)); obtain ⟨f0, f1⟩ := (⟨(F2.out.2.1.below hbw3 (by omega)).frozen 0, (F2.out.2.1.below hbw3 (by omega)).frozen 1⟩ : w3.frozen? ⟨w.heap.size + 1 + 1, 0, none⟩ = false ∧ w3.frozen? ⟨w.heap.size + 1 + 1, 1, none⟩ = false))
        have F3 : FI w l (.slice a3 ((cel .i64 sz).length + 1) c3) (.slice none 0 0) (sz ++ [s]) (w3.setCell ⟨w.heap.size + 1 + 1, 0, none⟩ (.slice a3 ((cel .i64 sz).length + 1) c3)) := F2.out.app0 hbw3 (by rw [cel_app]; exact hown3)
        go_roundw
        case rel => exact ⟨2 + 1, sz ++ [s], _, by have := HK.out; omega, rfl, by go_num, F3, by rw [List.length_append, hsz.out.1]; rfl, by intro x hx; rcases List.mem_append.1 hx with h | h; exact hsz.out.2 x h; (rw [List.mem_singleton] at h; subst h; exact HS.out)⟩
        case measure => have := HK.out; simp [intOf]; omega
      · have hkb : k ≤ 2 := by have := HM.out; omega
        have q1 : ¬ ((k : Nat) : Int) = 2 := by omega
        have q2 : (((k : Nat) : Int) == 2) = false := by simpa using q1
        have hmul : IntKind.i64.wrap (((prd sz : Nat) : Int) * (s : Int)) = ((prd (sz ++ [s]) : Nat) : Int) := by
          have h1 := hsz.out
          have h2 := (prd_le3 (fun x hx => (h1.2 x hx).2) (by have := HM.out; omega)).1
          rw [prd_snoc, IntKind.wrap_i64, Int.natCast_mul]
          have h3 : prd sz * s ≤ 27 * 3 := Nat.mul_le_mul h2 (by have := HS.out; omega)
          have h4 : ((prd sz * s : Nat) : Int) = (prd sz : Int) * (s : Int) := by rw [Int.natCast_mul]
          omega
        obtain ⟨n0, n1⟩ := row2 F2.out.2.1
        obtain ⟨f0, f1⟩ := (⟨F2.out.2.1.frozen 0, F2.out.2.1.frozen 1⟩ : w2.frozen? ⟨w.heap.size + 1 + 1, 0, none⟩ = false ∧ w2.frozen? ⟨w.heap.size + 1 + 1, 1, none⟩ = false)
        have hown := F2.out.2.2.2.1
        have hbase := F2.out.size
        have hln : (cel .i64 sz).length ≤ 4 := by rw [zal, hsz.out.1]; have := HM.out; omega
        go_wp2_with (at_builtin; refine zbp elI1 rfl _ _ rfl rfl hown rfl rfl (by omega) hbase ?_; intro v3 w3 hown3 hbw3 hz3; obtain ⟨a3, c3, e3⟩ : ∃ a c, v3 = .slice a ((cel .i64 sz).length + 1) c := (by obtain ⟨a, c, e⟩ := own_sl hown3; exact ⟨a, c, by rw [e, List.length_append]; rfl⟩); subst e3; clear n0 n1 f0 f1; obtain ⟨n0, n1⟩ := row2 (F2.out.2.1.below hbw3 (by omega)); obtain ⟨f0, f1⟩ := (⟨(F2.out.2.1.below hbw3 (by omega)).frozen 0, (F2.out.2.1.below hbw3 (by omega)).frozen 1⟩ : w3.frozen? ⟨w.heap.size + 1 + 1, 0, none⟩ = false ∧ w3.frozen? ⟨w.heap.size + 1 + 1, 1, none⟩ = false))
        have F3 : FI w l (.slice a3 ((cel .i64 sz).length + 1) c3) (.slice none 0 0) (sz ++ [s]) (w3.setCell ⟨w.heap.size + 1 + 1, 0, none⟩ (.slice a3 ((cel .i64 sz).length + 1) c3)) := F2.out.app0 hbw3 (by rw [cel_app]; exact hown3)
        go_roundw
        case rel => exact ⟨k + 1, sz ++ [s], _, by have := HK.out; omega, rfl, by go_num, F3, by rw [List.length_append, hsz.out.1]; rfl, by intro x hx; rcases List.mem_append.1 hx with h | h; exact hsz.out.2 x h; (rw [List.mem_singleton] at h; subst h; exact HS.out)⟩
        case measure => have := HK.out; simp [intOf]; omega
    · obtain rfl : k = M := by omega
      go_wp2_with fail
      obtain ⟨aS, cS, eS⟩ : ∃ a c, vS = .slice a k c := by
        obtain ⟨a, c, e⟩ := own_sl FF.out.2.2.2.1
        exact ⟨a, c, by rw [e, zal, hsz.out.1]⟩
      subst eS
      obtain ⟨n, hn⟩ : ∃ n, n = prd sz := ⟨_, rfl⟩
      have Hn := Lib.hid hn
      have hn27 : n ≤ 27 := by rw [hn]; exact (prd_le3 (fun x hx => (hsz.out.2 x hx).2) (by rw [hsz.out.1]; exact HM.out.2)).1
      rw [← hn]
      have hk3 : k ≤ 3 := HM.out.2
      obtain ⟨wL, hwL⟩ : ∃ x, x = wr := ⟨_, rfl⟩
      have K0 : Hid (Kept (some (w.heap.size + 1)) (some (w.heap.size + 1 + 1)) none wL wr) := by rw [hwL]; exact Kept.refl _ _ _ _
      have hzL := FF.out.size
      rw [← hwL] at FF hzL
      have D0 := FF.out.1
      have R0 := FF.out.2.1
      rw [hwL] at D0 R0
      have hz0 : wL.heap.size ≤ wr.heap.size := by rw [hwL]; exact Nat.le_refl _
      clear hn hk hge hwL
      go_loopw [13, 14, 15, 16, 17] (fun la p ro i x wr => ∃ (q : Nat) (zs : List (List Int)) (vP : Value) (S : Nat → Prop), q ≤ k ∧ p = .int .i64 ((q : Nat) : Int) ∧ Kept (some (w.heap.size + 1)) (some (w.heap.size + 1 + 1)) none wL wr ∧ IsD wr (w.heap.size + 1) l ∧ Row wr (w.heap.size + 1 + 1) 64 [.slice aS k cS, vP] ∧ OwnS 1 25 IsV wr wL.heap.size S vP (zs.map fun z => rawV (zbx 1 z)) ∧ Hid (zs.length = q ∧ (∀ z ∈ zs, z.length = n ∧ ∀ x ∈ z, x.natAbs ≤ 3) ∧ ∀ b, S b → wL.heap.size ≤ b)) (fun _ p _ _ _ _ => k - (intOf p).toNat)
      case atStart => exact ⟨0, [], _, fun _ => False, by omega, rfl, K0.out, D0, R0, OwnS.nil (fun _ h => h.elim), rfl, by simp, fun _ h => h.elim⟩
      case round =>
        clear K0 D0 R0 hz0
        obtain ⟨q, zs, vP, S, hq, rfl, hK, hD, hR, hO, hzs⟩ := hrel
        have KK := Lib.hid hK
        have DD := Lib.hid hD
        have RN := Lib.hid hR
        have OO := Lib.hid hO
        have hwz := hK.size
        clear hK hD hR hO
        rcases Nat.lt_or_ge q k with hlt | hge
        · have HQ := Lib.hid hlt
          rename World => wo
          go_wp2_with fail
          go_loopw [15, 16, 17] (fun ro i x wr => ∃ (j : Nat) (z : List Int), j ≤ n ∧ i = .int .i64 ((j : Nat) : Int) ∧ wo.grownBy wr (some (w.heap.size + 1)) ∧ IsD wr (w.heap.size + 1) l ∧ Own wr wo.heap.size 3 ro (ivs z) ∧ Hid (z.length = j ∧ ∀ x ∈ z, x.natAbs ≤ 3)) (fun _ i _ _ => n - (intOf i).toNat)
          case atStart => exact ⟨0, [], by omega, rfl, grown_refl _ _, DD.out, Own.nil _ _ _, rfl, by simp⟩
          case round =>
            obtain ⟨j, z, hj, rfl, hg, hd, ho, hz⟩ := hrel
            have GG := Lib.hid hg
            have DJ := Lib.hid hd
            have OJ := Lib.hid ho
            have hzg := hg.size
            clear hg hd ho
            rcases Nat.lt_or_ge j n with hlj | hgj
            · have HJ := Lib.hid hlj
              go_wp2_with fail
              refine (next_i DJ.out 7 (by omega) (by omega)).mono ?_
              rintro e w2 ⟨⟨y, hy0, hy7, rfl⟩, hD, hO⟩
              have hy1 : IntKind.i64.wrap (y - 3) = y - 3 := by rw [IntKind.wrap_i64]; omega
              have D2 := Lib.hid hD
              have G2 := Lib.hid (grown_trans GG.out hO.grown)
              have O2 := Lib.hid (OJ.out.low hO.grown (by omega))
              have hz2 := hO.grown.size
              clear hD hO
              have hown := O2.out
              have hln : (ivs z).length ≤ 27 := by unfold ivs; rw [List.length_map, hz.out.1]; omega
              go_wp2_with (at_builtin; refine zbp elI1 rfl _ _ rfl rfl hown rfl rfl (by omega) (by omega) ?_; intro v3 w3 hown3 hbw3 hz3)
              go_roundw
              case rel => exact ⟨j + 1, z ++ [y - 3], by have := HJ.out; omega, by go_num, grown_far G2.out hbw3, D2.out.next hbw3 (by omega), by unfold ivs; rw [List.map_append]; exact hown3, by rw [List.length_append, hz.out.1]; rfl, by intro x hx; rcases List.mem_append.1 hx with h | h; exact hz.out.2 x h; (rw [List.mem_singleton] at h; omega)⟩
              case measure => have := HJ.out; simp [intOf]; omega
            · obtain rfl : j = n := by omega
              obtain ⟨ar, cr, er, har, hcr, hsv⟩ := OJ.out.sl
              have e1 : (ivs z).length = j := by unfold ivs; rw [List.length_map, hz.out.1]
              rw [e1] at er
              subst er
              have IZ : Hid (IsIL wr (Old wr) (.slice ar j cr) z) := ⟨ar, cr, by rw [hz.out.1], by rw [hz.out.1]; rw [e1] at har; exact har, hcr, fun hne => by
                obtain ⟨b, o, h1, _, h3, h4⟩ := hsv hne
                exact ⟨b, o, h1, h3, h4⟩, fun x hx => by have := hz.out.2 x hx; unfold In64; omega⟩
              obtain ⟨aP, cP, eP⟩ := OO.out.slice
              rw [List.length_map, hzs.out.1] at eP
              subst eP
              have RNr := Lib.hid (Row.grownN RN.out GG.out (fun b e => by cases e; omega))
              have OOr := Lib.hid (OO.out.grown IsV.stb GG.out (fun b e => by
                cases e
                exact ⟨fun e' => by have := (OO.out.own_lt _ e').1; omega, fun h => by have := hzs.out.2.2 _ h; omega⟩))
              have KKr := Lib.hid (KK.out.step GG.out (.inr (.inl rfl)))
              obtain ⟨n0, n1⟩ := row2 RNr.out
              have f1 := RNr.out.frozen 1
              have HC1 := hs1 n1
              have HF1 := Lib.hid (And.intro n1 f1)
              have HG : Hid (∀ W, wr.grownBy W (Value.slice aP q cP).ownBlock → (SH.mk _ HC1).s W) := fun W h => h.cell n1 fun e => by have h9 : wL.heap.size ≤ w.heap.size + 1 + 1 := (OOr.out.own_lt _ e.symm).1; omega
              have hbz : wL.heap.size ≤ wr.heap.size := by omega
              have hj40 : j ≤ 40 := by omega
              clear n0 n1 f1 hsv har hcr hgj
              go_wp2_with fail
              refine wp_region_noPanic ?_
              refine zck [8] (fun _ => True) (SH.mk _ HC1).s kr trivial (HC1.out _ bel) (fun hHeld hC2 => ?_)
              refine pB 0 74 ?_
              refine pA 1 75 ?_
              refine pB 2 76 ?_
              refine pB 6 80 ?_
              refine oneA (i := 3) kr rfl rfl fun K hK => ?_
              go_simp
              go_at_call 95
              (with_reducible refine Calls.mono (whole_l25 (w := wr.drew) (IsIL.stb.next IZ.out (zam wr)) hz.out.1.symm (by rw [hz.out.1]; exact hj40) (fun x hx => by have := hz.out.2 x hx; omega)) ?_)
              rintro e w5 ⟨⟨v5, rfl, hv5⟩, hb5⟩
              have V5 := Lib.hid hv5
              obtain ⟨a5, c5, e5, _⟩ := zcb hv5
              subst e5
              have B5 : Hid (Below wr.heap.size wr w5) := (zam wr).trans hb5
              clear hv5
              (focus go_wp2_with fail)
              refine hK.out _ _ trivial (HC1.out _ B5.out) fun hHeld hC2 => ?_
              clear hK K
              refine sP ?_
              refine oneA (i := 4) kr rfl rfl fun K hK => ?_
              go_simp
              refine hK.out _ _ trivial (HC1.out _ (zaa B5.out (zaq w5 _))) fun hHeld hC2 => ?_
              clear hK K
              refine sP ?_
              refine oneA (i := 5) kr rfl rfl fun K hK => ?_
              refine step_appX (w4 := w5) (ev := .slice a5 (rawV (zbx 1 z)).length c5) (T := New wr.heap.size w5) elVN IsV.stb (.tmp 75) (.tmp 78) rfl (by simp [Act.eval]) (by simp [Act.eval]) rfl OOr.out B5.out V5.out (fun b h => h) rfl (by intro u hu; simp [Value.cells] at hu; subst hu; rfl) (by rw [List.length_map, hzs.out.1]; omega) hbz ?_
              intro v7 w7 hown7 hg7 ho7 hz7
              obtain ⟨a7, c7, e7⟩ := hown7.slice
              rw [List.length_append, List.length_map, hzs.out.1, List.length_singleton] at e7
              subst e7
              have O7 := Lib.hid hown7
              have B57 : Hid (w5.heap.size ≤ w7.heap.size) := hz7
              have G7 := Lib.hid hg7
              have hB7 : Hid (wr.heap.size ≤ w7.heap.size) := hg7.size
              have R7 := Lib.hid (Row.grownN RNr.out hg7 (fun b e => by have := (OOr.out.own_lt _ e).1; omega))
              have hlt7 : ∀ b, (Value.slice aP q cP).ownBlock = some b → wL.heap.size ≤ b := fun b e => (OOr.out.own_lt _ e).1
              have K7 := Lib.hid (kept_far KKr.out hg7 hlt7)
              have D7 : Hid (IsD w7 (w.heap.size + 1) l) := DJ.out.grownN hg7 (fun b e => by have := hlt7 b e; omega)
              refine hK.out _ _ trivial (HG.out _ hg7) fun hHeld hC2 => ?_
              clear hK K hg7 hown7 hz7 hlt7 HG
              refine sP ?_
              refine pB 7 81 ?_
              have t1 := R7.out.cell 1
              have t2 := R7.out.frozen 1
              refine oneT (i := 8) kr rfl rfl rfl rfl fun K hK => ?_
              go_simp
              refine hK.out _ _ trivial fun hHeld => ?_
              clear hK K t1 t2
              refine sP ?_
              refine pB 9 13 ?_
              refine zfs kr ?_ _
              refine NoPanic.normal ?_
              have hlow : ∀ b, SNew S wr w5 b → wL.heap.size ≤ b := fun b hb => by
                rcases hb with hb | hb
                · exact hzs.out.2.2 b hb
                · omega
              have O8 := Lib.hid (O7.out.grown IsV.stb (zdg w7 (w.heap.size + 1 + 1) 1 (.slice a7 (q + 1) c7)) (fun b e => by
                cases e
                exact ⟨fun e' => by have := (O7.out.own_lt _ e').1; omega, fun h => by have := hlow _ h; omega⟩))
              have K8 := Lib.hid (K7.out.step (zdg w7 (w.heap.size + 1 + 1) 1 (.slice a7 (q + 1) c7)) (.inr (.inr (.inl rfl))))
              have D8 := Lib.hid (D7.out.far (p := ⟨w.heap.size + 1 + 1, 1, none⟩) (by show w.heap.size + 1 < w.heap.size + 1 + 1; omega) (.slice a7 (q + 1) c7))
              have R8 := Lib.hid (Row.set_ R7.out 1 (.slice a7 (q + 1) c7))
              have HL8 := Lib.hid hlow
              clear hlow O7 K7 D7 R7
              go_wp2_with fail
              go_roundw
              case rel => exact ⟨q + 1, zs ++ [z], .slice a7 (q + 1) c7, SNew S wr w5, by have := HQ.out; omega, by go_num, K8.out, D8.out, R8.out, by rw [List.map_append]; exact O8.out, by rw [List.length_append, hzs.out.1]; rfl, by intro r hr; rcases List.mem_append.1 hr with h | h; exact hzs.out.2.1 r h; (rw [List.mem_singleton] at h; subst h; exact hz.out), HL8.out⟩
              case measure => have := HQ.out; simp [intOf]; omega
        · obtain rfl : q = k := by omega
          obtain ⟨aP, cP, eP⟩ := OO.out.slice
          rw [List.length_map, hzs.out.1] at eP
          subst eP
          have RR : Row wr w.heap.size 64 [.slice none 0 0, .slice none 0 0] := (KK.out.block w.heap.size (by omega) (by simp) (by simp; omega) (by simp)).trans FF.out.2.2.1
          have RR := Lib.hid RR
          obtain ⟨n0, n1⟩ := row2 RN.out
          obtain ⟨r0, r1⟩ := row2 RR.out
          obtain ⟨f0, f1⟩ := (⟨RR.out.frozen 0, RR.out.frozen 1⟩ : wr.frozen? ⟨w.heap.size, 0, none⟩ = false ∧ wr.frozen? ⟨w.heap.size, 1, none⟩ = false)
          clear hge
          go_wp2_with fail
          have BW : Below w.heap.size w wr := ⟨KK.out.os.trans FF.out.2.2.2.2.os, KK.out.tape.trans FF.out.2.2.2.2.tape, KK.out.output.trans FF.out.2.2.2.2.output, Nat.le_trans FF.out.2.2.2.2.size hwz, fun b hb => (KK.out.block b (by omega) (by simp; omega) (by simp; omega) (by simp)).trans (FF.out.2.2.2.2.block b hb)⟩
          have h1 : IsK .i64 wL (fun b => w.heap.size + 3 ≤ b ∧ b < wL.heap.size) (.slice aS q cS) sz := FF.out.2.2.2.1.isL.isK fun b h1 h2 => ⟨h1, h2⟩
          have h2 := IsK.stb.to h1 (kept_same KK.out fun b hb => ⟨hb.2, by simp; have := hb.1; omega, by simp; have := hb.1; omega, by simp⟩)
          have h3 : IsK .i64 (pn2 wr w.heap.size (.slice aS q cS) (.slice aP q cP)) (Old (pn2 wr w.heap.size (.slice aS q cS) (.slice aP q cP))) (.slice aS q cS) sz := IsK.stb.to h2 (same_pn2 fun b hb => ⟨by have := hb.1; omega, by show b < _; rw [size_pn2]; have := hb.2; omega⟩)
          have h4 : IsM wr (New wL.heap.size wr) (.slice aP q cP) (zs.map fun z => rawV (zbx 1 z)) := OO.out.isS IsV.stb (fun b hb => ⟨hzs.out.2.2 b hb, by obtain ⟨_, _, _, _, h4⟩ := OO.out; exact (h4 b hb).1⟩) (fun b h1 h2 => ⟨h1, h2⟩)
          have h5 : IsM (pn2 wr w.heap.size (.slice aS q cS) (.slice aP q cP)) (Old (pn2 wr w.heap.size (.slice aS q cS) (.slice aP q cP))) (.slice aP q cP) (zs.map fun z => rawV (zbx 1 z)) := IsM.stb.to h4 (same_pn2 fun b hb => ⟨by have := hb.1; omega, by show b < _; rw [size_pn2]; exact hb.2⟩)
          have e1 : rawT (zbh zs) = zs.map fun z => rawV (zbx 1 z) := by unfold rawT zbh; rw [List.map_map]; rfl
          refine ret_norm Tryz.results31 rfl rfl (Row.pn2 RR.out _ _) ⟨sz, zs, ⟨⟨_, rfl, aS, cS, aP, cP, by rw [hsz.out.1, zbh, List.length_map, hzs.out.1], ?_, ?_⟩, below_pn2 BW (Nat.le_refl _) _ _⟩, ⟨by rw [hsz.out.1]; have := HM.out; omega, by rw [hsz.out.1]; exact HM.out.2, fun x hx => (hsz.out.2 x hx).1, fun x hx => (hsz.out.2 x hx).2, by rw [hsz.out.1, hzs.out.1], fun z hz => by rw [← Hn.out]; exact hzs.out.2.1 z hz⟩, by rw [hsz.out.1]; exact HM.out.1⟩
          · rw [hsz.out.1]
            exact h3.isL fun b hb => ⟨Nat.zero_le _, hb⟩
          · rw [e1, zbh, List.length_map, hzs.out.1]
            exact h5
theorem num_neg {q : Rat} : decide (q.num < 0) = !decide (0 ≤ q) := by
  rw [Bool.eq_iff_iff, Bool.not_eq_true', decide_eq_true_eq, decide_eq_false_iff_not, ← Rat.num_nonneg]
  omega
theorem open18 {l : List Value} (h : l.length = 18) : ∃ fs : Nat → Value, l = [fs 0, fs 1, fs 2, fs 3, fs 4, fs 5, fs 6, fs 7, fs 8, fs 9, fs 10, fs 11, fs 12, fs 13, fs 14, fs 15, fs 16, fs 17] := by
  refine ⟨fun i => l.getD i undef, ?_⟩
  have e : l = (List.range 18).map (fun i => l.getD i undef) := by
    apply List.ext_getElem
    · simp [h]
    · intro i h1 h2
      simp [List.getD_eq_getElem?_getD, List.getElem?_eq_getElem h1]
  exact e.trans rfl
def OrdPhi (va vb : Value) (qa qb : Rat) (n0 : Nat) (i : Nat) (v : Value) (w : World) : Prop :=
  match i with
  | 0 => v = va
  | 1 => v = vb
  | 2 => IsQ w (Old w) v (-qb)
  | 3 => IsQ w (Old w) v (qa - qb)
  | 4 => ∃ g, n0 ≤ g ∧ v = .pointer (some ⟨g, 0, none⟩) ∧ Row w g 30 [.bool false, .slice none 0 0, .slice none 0 0]
  | _ => True
theorem ordPhi_stb (va vb : Value) (qa qb : Rat) (n0 : Nat) : ∀ (i : Nat) (v : Value) (w w' : World), OrdPhi va vb qa qb n0 i v w → Below w.heap.size w w' → OrdPhi va vb qa qb n0 i v w' := fun i v w w' h hb => match i, h with
  | 0, h => h
  | 1, h => h
  | 2, h => IsQ.stb.next h hb
  | 3, h => IsQ.stb.next h hb
  | 4, h => by obtain ⟨g, n, e, r⟩ := h; exact ⟨g, n, e, r.next hb⟩
  | _ + 5, _ => trivial
set_option maxRecDepth 100000 in
set_option maxHeartbeats 2000000 in
theorem rorder_q {w : World} {va vb : Value} {qa qb : Rat} (ha : IsQ w (Old w) va qa) (hb : IsQ w (Old w) vb qb) (hsa : Sz qa 100000) (hsb : Sz qb 100000) :
    Calls Tryz.prog 42 #[va, vb] w fun e w' => e = .returned (.int .i64 (cmpQ qa qb)) ∧ Below w.heap.size w w' := by
  have Sa := Lib.hid hsa
  have Sb := Lib.hid hsb
  have HQa := Lib.hid ha
  have HQb := Lib.hid hb
  obtain ⟨nega, Aa, cAa, Ba, cBa, rfl, _, _, _⟩ := zar ha
  obtain ⟨negb, Ab, cAb, Bb, cBb, rfl, _, _, _⟩ := zar hb
  clear ha hb hsa hsb
  obtain ⟨w0, hw0, hb0, rA, rB, Hz⟩ := zbj w #[.bool nega, .slice Aa (lim qa.num.natAbs).length cAa, .slice Ba (lim qa.den).length cBa] #[.bool negb, .slice Ab (lim qb.num.natAbs).length cAb, .slice Bb (lim qb.den).length cBb] 30 30
  have HB0 := Lib.hid hb0
  have RA := Lib.hid rA
  have RB := Lib.hid rB
  clear hb0 rA rB
  go_enter Tryz.func42, Tryz.ntmps42
  go_wp2_with fail
  clear hw0
  refine region_abs fun ops hops => ?_
  have oq0 := op_at (j := 0) hops rfl
  have oq1 := op_at (j := 1) hops rfl
  have oq2 := op_at (j := 2) hops rfl
  have oq3 := op_at (j := 3) hops rfl
  have oq4 := op_at (j := 4) hops rfl
  have oq5 := op_at (j := 5) hops rfl
  have fr := fun t h => slotN_abs (n := 5) hops t h
  refine wp_region_growS 5 (OrdPhi (.agg #[.bool nega, .slice Aa (lim qa.num.natAbs).length cAa, .slice Ba (lim qa.den).length cBa]) (.agg #[.bool negb, .slice Ab (lim qb.num.natAbs).length cAb, .slice Bb (lim qb.den).length cBb]) qa qb w0.heap.size) (by kernel_rfl) (ordPhi_stb (.agg #[.bool nega, .slice Aa (lim qa.num.natAbs).length cAa, .slice Ba (lim qa.den).length cBa]) (.agg #[.bool negb, .slice Ab (lim qb.num.natAbs).length cAb, .slice Bb (lim qb.den).length cBb]) qa qb w0.heap.size) (by rw [hops]; kernel_rfl) ?step ?fin
  case step =>
    intro i o hin hi a W hsz hdf hbw hfree hdep
    obtain ⟨T, df⟩ := a
    replace hsz : T.size = 18 := hsz
    obtain rfl : df = [] := hdf
    match i, hin, hi with
    | 0, _, hi =>
      obtain rfl := Option.some.inj (oq0.symm.trans hi)
      have e2 : T[2]? = some (.pointer (some ⟨w.heap.size, 0, none⟩)) := hfree 2 (fr 2 (by kernel_rfl))
      refine zdz rfl ?_
      clear hdep hfree hsz hops fr oq0 oq1 oq2 oq3 oq4 oq5
      obtain ⟨c0, c1, c2⟩ := zab (RA.out.next hbw)
      refine zdn fun K hK => ?_
      go_simp
      exact hK (.agg #[.bool nega, .slice Aa (lim qa.num.natAbs).length cAa, .slice Ba (lim qa.den).length cBa]) _ (Below.refl _ _) (rfl)
    | 1, _, hi =>
      obtain rfl := Option.some.inj (oq1.symm.trans hi)
      have e3 : T[3]? = some (.pointer (some ⟨w.heap.size + 1, 0, none⟩)) := hfree 3 (fr 3 (by kernel_rfl))
      refine zdz rfl ?_
      clear hdep hfree hsz hops fr oq0 oq1 oq2 oq3 oq4 oq5
      obtain ⟨c0, c1, c2⟩ := zab (RB.out.next hbw)
      refine zdn fun K hK => ?_
      go_simp
      exact hK (.agg #[.bool negb, .slice Ab (lim qb.num.natAbs).length cAb, .slice Bb (lim qb.den).length cBb]) _ (Below.refl _ _) (rfl)
    | 2, _, hi =>
      obtain rfl := Option.some.inj (oq2.symm.trans hi)
      have e7 : T[7]? = some (.agg #[.bool negb, .slice Ab (lim qb.num.natAbs).length cAb, .slice Bb (lim qb.den).length cBb]) := slot_some (by omega) (hdep 1 _ 7 (odt (by kernel_rfl)) oq1 rfl)
      refine zdz rfl ?_
      clear hdep hfree hsz hops fr oq0 oq1 oq2 oq3 oq4 oq5
      refine zdn fun K hK => ?_
      go_simp
      refine (rneg_s (IsQ.stb.to HQb.out (zby (zaa HB0.out hbw))) (fun b h => h) rfl).mono ?_
      rintro e w' ⟨⟨v, rfl, hv⟩, hb⟩
      exact hK v w' hb (IsQ.stb.to hv (zav fun b h => Nat.lt_of_lt_of_le h hb.size))
    | 3, _, hi =>
      obtain rfl := Option.some.inj (oq3.symm.trans hi)
      have e6 : T[6]? = some (.agg #[.bool nega, .slice Aa (lim qa.num.natAbs).length cAa, .slice Ba (lim qa.den).length cBa]) := slot_some (by omega) (hdep 0 _ 6 (odt (by kernel_rfl)) oq0 rfl)
      have d8 : IsQ W (Old W) (T.getD 8 undef) (-qb) := hdep 2 _ 8 (odt (by kernel_rfl)) oq2 rfl
      obtain ⟨v8, e8, g8⟩ := slot_ex (T := T) (t := 8) (by omega)
      rw [g8] at d8
      clear g8
      refine zdz rfl ?_
      clear hdep hfree hsz hops fr oq0 oq1 oq2 oq3 oq4 oq5
      refine zdn fun K hK => ?_
      go_simp
      refine (raddq (IsQ.stb.to HQa.out (zby (zaa HB0.out hbw))) d8 Sa.out Sb.out.neg (Rat.sub_eq_add_neg qa qb)).mono ?_
      rintro e w' ⟨⟨v, rfl, hv⟩, hb⟩
      exact hK v w' hb (IsQ.stb.old hv)
    | 4, _, hi =>
      obtain rfl := Option.some.inj (oq4.symm.trans hi)
      refine zdz rfl ?_
      clear hdep hfree hsz hops fr oq0 oq1 oq2 oq3 oq4 oq5
      have hz := zRat
      refine zdn fun K hK => ?_
      go_simp
      exact hK (.pointer (some ⟨W.heap.size, 0, none⟩)) _ (zaq _ _) ⟨_, hbw.size, rfl, heap_alloc_new _ _⟩
    | _ + 5, hin, _ => exact absurd hin (by omega)
  case fin =>
    intro o ho a W hsz hdf hbw hfree hall
    obtain rfl := Option.some.inj (oq5.symm.trans ho)
    obtain ⟨⟨l⟩, df⟩ := a
    replace hsz : l.length = 18 := hsz
    obtain ⟨fs, rfl⟩ := open18 hsz
    obtain rfl : df = [] := hdf
    have bs2 : fs 2 = .pointer (some ⟨w.heap.size, 0, none⟩) := Option.some.inj (hfree 2 (fr 2 (by kernel_rfl)))
    have bs3 : fs 3 = .pointer (some ⟨w.heap.size + 1, 0, none⟩) := Option.some.inj (hfree 3 (fr 3 (by kernel_rfl)))
    have bs4 : fs 4 = .int .i64 0 := Option.some.inj (hfree 4 (fr 4 (by kernel_rfl)))
    have q9 : IsQ W (Old W) (fs 9) (qa - qb) := hall 3 _ 9 (by omega) oq3 rfl
    have q5 : ∃ g, w0.heap.size ≤ g ∧ (fs 5) = .pointer (some ⟨g, 0, none⟩) ∧ Row W g 30 [.bool false, .slice none 0 0, .slice none 0 0] := hall 4 _ 5 (by omega) oq4 rfl
    clear hops fr oq0 oq1 oq2 oq3 oq4 oq5
    clear hall hfree hsz ho
    rw [bs2, bs3, bs4]
    clear bs2 bs3 bs4
    obtain ⟨t9, ht9⟩ : ∃ t, t = fs 9 := ⟨_, rfl⟩
    rw [← ht9] at q9 ⊢
    clear ht9
    obtain ⟨t5, ht5⟩ : ∃ t, t = fs 5 := ⟨_, rfl⟩
    rw [← ht5] at q5 ⊢
    clear ht5
    obtain ⟨g, hlt, rfl, r5⟩ := q5
    obtain ⟨s, P, k, O, l, rfl, hs, hn, _⟩ := zar q9
    obtain ⟨d0, d1, d2⟩ := zab r5
    obtain ⟨f0, f1, f2⟩ := zan r5
    have hB := zad hbw hlt (.bool s) (.slice P (lim (qa - qb).num.natAbs).length k) (.slice O (lim (qa - qb).den).length l)
    have hBf := Lib.hid (zaa HB0.out hB)
    have hs' := hs.out
    have ep : decide ((qa - qb).num < 0) = decide (qa < qb) := by
      rw [num_neg, Bool.eq_iff_iff, Bool.not_eq_true', decide_eq_true_eq, decide_eq_false_iff_not, ← Rat.le_iff_sub_nonneg, Rat.not_le]
    rw [ep] at hs'
    have ez : qa - qb = 0 ↔ qa = qb := by
      constructor
      · intro h
        have h1 : qb ≤ qa := (Rat.le_iff_sub_nonneg qb qa).2 (by rw [h]; exact Rat.le_refl)
        have h2 : qa ≤ qb := (Rat.le_iff_sub_nonneg qa qb).2 (by rw [show qb - qa = -(qa - qb) by rw [Rat.neg_sub], h]; exact Rat.le_refl)
        exact Rat.le_antisymm h2 h1
      · intro h; rw [h, Rat.sub_self]
    have R5 := Lib.hid r5
    clear hbw hB hn ep q9 r5 hlt
    by_cases h0 : qa = qb
    · have l0 := len_zero (num_zero_iff.2 (ez.2 h0))
      have hc := Lib.hid (zfq h0)
      rw [decide_eq_false (by rw [h0]; exact Rat.lt_irrefl)] at hs'
      subst hs'
      clear h0 ez hs
      refine last_k fun K hK => ?_
      go_simp
      refine hK _ _ ?_
      clear hK K d0 d1 d2 f0 f1 f2
      obtain ⟨c0, c1, c2⟩ := zab (R5.out.put3 (.bool false) (.slice P (lim (qa - qb).num.natAbs).length k) (.slice O (lim (qa - qb).den).length l))
      go_wp2_with fail
      go_ret
      exact ⟨by rw [hc.out]; rfl, hBf.out⟩
    · have l0 := len_pos (zdi (fun e => h0 (ez.1 e)))
      by_cases h1 : qa < qb
      · have hc := Lib.hid (cmpQ_lt h1)
        rw [decide_eq_true h1] at hs'
        subst hs'
        clear h0 h1 ez hs
        refine last_k fun K hK => ?_
        go_simp
        refine hK _ _ ?_
        clear hK K d0 d1 d2 f0 f1 f2
        obtain ⟨c0, c1, c2⟩ := zab (R5.out.put3 (.bool true) (.slice P (lim (qa - qb).num.natAbs).length k) (.slice O (lim (qa - qb).den).length l))
        go_wp2_with fail
        go_ret
        exact ⟨by rw [hc.out]; rfl, hBf.out⟩
      · have hc := Lib.hid (cmpQ_gt (Rat.not_le.1 fun h => h1 (Rat.not_le.1 fun h' => h0 (Rat.le_antisymm h h'))))
        rw [decide_eq_false h1] at hs'
        subst hs'
        clear h0 h1 ez hs
        refine last_k fun K hK => ?_
        go_simp
        refine hK _ _ ?_
        clear hK K d0 d1 d2 f0 f1 f2
        obtain ⟨c0, c1, c2⟩ := zab (R5.out.put3 (.bool false) (.slice P (lim (qa - qb).num.natAbs).length k) (.slice O (lim (qa - qb).den).length l))
        go_wp2_with fail
        go_ret
        exact ⟨by rw [hc.out]; rfl, hBf.out⟩
end Go.Proofs.YtijjjbgnpfjpmaaGreatDoor
