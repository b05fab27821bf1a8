/-
  The contract of package nat's Add.
-/
import Derived.Test.YtbeocfiimminiaaDoorLimbsIt
import Derived.Test.YtbeocfiimminiaaDoorPlainAdd
import Derived.Maps.OwnIn
namespace Go.Proofs.YtbeocfiimminiaaDoor
open Go.RowKit Go.Shelf
attribute [local go_sem] Oper.semAt_some
set_option linter.unusedVariables false

/-- What the boxes of the sum and of the carry hold when the pairs pre have come. -/
def AddInv (base s : Nat) (pre : List Lim2) (W : World) : Prop :=
  ∃ (v : Value) (q : Int) (L : List Nat), Boxed W s 23 v ∧ Boxed W (s + 1) 34 (.int .u32 q) ∧ Own W base 34 v (cel .u32 L) ∧ v.ownBlock ≠ some (s + 1) ∧ 0 ≤ q ∧ q ≤ 1 ∧ Hid (AddAt (pre.map Subtype.val) L q)
theorem addInv_own (base s : Nat) : Go.Own (AddInv base s) := by
  rintro pre X Y row ⟨v, q, L, h1, h2, h3, h3', h4, h5, h6⟩ hg hrow
  have hbox : ∀ {B : Nat} {t : TypeId} {u : Value}, Boxed X B t u → some B ≠ row := by
    intro B t u hb e
    obtain ⟨o, ho, hc⟩ := hrow B e.symm
    rw [show X.heap[B]? = _ from hb] at ho
    cases ho
    cases hc
  refine ⟨v, q, L, h1.kept hg (hbox h1), h2.kept hg (hbox h2), World.ownsRow.kept h3 hg ?_, h3', h4, h5, h6⟩
  rcases h3.2 with ⟨rfl, _⟩ | ⟨g, cap, cur, rfl, _, hgb, _⟩
  · exact .inl rfl
  · refine .inr fun e' => ?_
    obtain ⟨o, ho, hc⟩ := hrow g (by simpa [Value.ownBlock] using e'.symm)
    rw [hgb] at ho
    cases ho
    cases hc

set_option maxRecDepth 100000 in
set_option maxHeartbeats 2000000 in
theorem nadd_ok {w : World} {va vb : Value} {x y : Nat} (ha : IsN w 0 w.heap.size va x) (hb : IsN w 0 w.heap.size vb y) (hx : (lim x).length ≤ 1024) (hy : (lim y).length ≤ 1024) :
    Calls Tryd.prog 28 #[va, vb] w fun e w' => (∃ v, e = .returned (.tuple #[v, .int .i64 (fite (x + y))]) ∧ IsN w' w.heap.size w'.heap.size v (fitv (x + y))) ∧ Below w.heap.size w w' := by
  have Hf : Hid (fst2 (chk (lim x)) (chk (lim y)) = 0) := by simp [Hid, fst2, chk_lim hx, chk_lim hy]
  have Ha := Lib.hid ha
  have Hb := Lib.hid hb
  obtain ⟨A, c, rfl, _, _, _⟩ := ha
  obtain ⟨B, d, rfl, _, _, _⟩ := hb
  obtain ⟨M, hMc, hM⟩ : ∃ M : Nat, M ≤ 1024 ∧ (((lim y).length ≤ (lim x).length ∧ M = (lim x).length) ∨ ((lim x).length < (lim y).length ∧ M = (lim y).length)) := by
    rcases Nat.lt_or_ge (lim x).length (lim y).length with h | h
    · exact ⟨_, hy, .inr ⟨h, rfl⟩⟩
    · exact ⟨_, hx, .inl ⟨h, rfl⟩⟩
  have HM := Lib.hid hM
  refine (callsIn_wide (n := 3)).1 ?_
  refine callsIn_of_wp_marks Tryd.func28 rfl trivial ?_ rfl
  simp only [Tryd.ntmps28, List.size_toArray, List.length_cons, List.length_nil, Nat.reduceAdd, Nat.reduceSub, Array.replicate_succ, Array.replicate_zero, List.push_toArray, List.append_toArray, List.nil_append, List.cons_append]
  refine wpIn_wide.2 ?_
  rcases hM with hM | hM
  · go_wp2_with fail
    refine (first_two (Ha.out.alloc (Nat.le_refl _) _) (Hb.out.alloc (Nat.le_refl _) _) (two_new _ _ _ _).1 (two_new _ _ _ _).2).mono ?_
    rw [Hf.out]
    rintro e w1 ⟨rfl, rfl⟩
    go_wp2_with (at_make; refine wp_make0 (base := w.heap.size) elN rfl _ _ rfl ((lim x).length + 1) rfl rfl (by omega) (by omega) (by simp) ?_; intro v0 w1 hown0 hb1 hz1; obtain ⟨A0, c0, hv0, _, _, _⟩ := hown0.sl; rw [List.length_nil] at hv0; subst hv0)
    have hb1' : Below w.heap.size w w1 := ((Below.refl _ w).alloc (Nat.le_refl _) _).trans (hb1.mono (by simp))
    have hb2 : Below w.heap.size w ((w1.alloc (.cells #[.slice A0 0 c0] 23)).alloc (.cells #[.int .u32 0] 34)) := (hb1'.alloc hb1'.size _).alloc (by rw [World.size_alloc]; have := hb1'.size; omega) _
    have bO := (Boxed.new w1 23 (.slice A0 0 c0)).alloc (.cells #[.int .u32 0] 34)
    have bC := Boxed.new (w1.alloc (.cells #[.slice A0 0 c0] 23)) 34 (.int .u32 0)
    rw [World.size_alloc] at bC
    have hown2 := (hown0.alloc (.cells #[.slice A0 0 c0] 23)).alloc (.cells #[.int .u32 0] 34)
    have hsz : w.heap.size < w1.heap.size := by have := hz1; rw [World.size_alloc] at this; omega
    have Hw1 := Lib.hid (And.intro hb1' hsz)
    have hne : Value.ownBlock (.slice A0 0 c0) ≠ some (w1.heap.size + 1) := fun h => by have := (World.ownsRow.lt hown0 _ h).2; omega
    clear hb1 hz1 hb1' hown0
    refine (limbs_n _ _ _ (a := lim x) (b := lim y) (Ha.out.below hb2 (Nat.le_refl _)) (Hb.out.below hb2 (Nat.le_refl _))).mono ?_
    rintro e w2 ⟨rfl, hb3, bA, bB, bF, hz3⟩
    have hbw := Lib.hid (below_trans' hb2 hb3)
    have bO2 : Boxed w2 w1.heap.size 23 (.slice A0 0 c0) := (hb3.block _ bO.lt).trans bO
    have bC2 : Boxed w2 (w1.heap.size + 1) 34 (.int .u32 0) := (hb3.block _ bC.lt).trans bC
    have hown3 := hown2.below hb3
    simp only [World.size_alloc] at bA bB bF hz3 ⊢
    generalize hs : w1.heap.size = s at *
    have HF := Lib.hid (And.intro bA (And.intro bB (And.intro bF (And.intro bO2 (And.intro bC2 hown3)))))
    clear bA bB bF bO2 bC2 hown3 bO bC hown2 hb2 hb3
    have Hz := Lib.hid hz3
    have Hs := Lib.hid hs
    have hne0 := Lib.hid hne
    clear hz3 hs hne
    go_wp2_with fail
    refine (wpIn_wide (n := 3)).1 ?_
    have hn0 : w.heap.size ≤ w2.heap.size := hbw.out.size
    refine wpIn_rangeFunc_ownG rfl (by omega) (gf := 67) (lb := #[.pointer (some ⟨s + 1 + 1, 0, none⟩), .pointer (some ⟨s + 1 + 1 + 1, 0, none⟩), .pointer (some ⟨s + 1 + 1 + 2, 0, none⟩)]) rfl trivial (enters_of Tryd.func67 (by kernel_rfl) rfl)
      (limbs_seq 2 (by omega) w.heap.size (s + 1 + 1) _ _ (lim x) (lim y) (lo_lim x) (lo_lim y) M HM.out (by omega) w2 (by rw [Hz.out]; omega) HF.out.1 HF.out.2.1 HF.out.2.2.1 (Ha.out.below hbw.out (Nat.le_refl _)) (Hb.out.below hbw.out (Nat.le_refl _)) hn0)
      kp3_t (kp3_b hn0) (Below.refl _ _) (fun _ => rfl)
      (fun pre W => AddInv w.heap.size s pre W ∧ Below w.heap.size w W) (fun _ _ _ => False)
      (OwnFrom.and (Own.from (addInv_own _ _) _) (ownFrom_below (Nat.le_refl _) hn0)) (fun _ _ _ _ _ hs _ _ => hs)
      ⟨⟨_, 0, [], HF.out.2.2.2.1, HF.out.2.2.2.2.1, HF.out.2.2.2.2.2, hne0.out, by omega, by omega, AddAt.start⟩, hbw.out⟩ ?a1 ?assign ?body ?done ?stop
    case assign =>
      intro l x W K hK
      gi_wp2
      exact hK
    case body =>
      rintro l pre ⟨⟨x1, y1⟩, hx1, hy1⟩ W ⟨⟨v, q, L, bv, bq, hown, hvn, hq0, hq1, hadd⟩, hB⟩ hlt
      dsimp only at hx1 hy1 ⊢
      have hc := bv.cell
      have hcq := bq.cell
      have hfq := bq.frozen
      have hfo := bv.frozen
      obtain ⟨i0, hi, hz0, hz1, hz2⟩ := info_parts u32_info
      have hsW := bq.lt
      have hlen : Hid ((cel .u32 L).length ≤ 1024) := by rw [Hid, cel_length, hadd.out.1, List.length_map]; omega
      have hrow1 := World.ownsRow.kept hown (grownBy_setCell' W (s + 1) (.int .u32 ((x1 + y1 + q) / 1000000000))) (.inr hvn)
      have bv1 := bv.kept (grownBy_setCell' W (s + 1) (.int .u32 ((x1 + y1 + q) / 1000000000))) (by simp)
      have bq1 := bq.set (.int .u32 ((x1 + y1 + q) / 1000000000))
      have hszW : w.heap.size ≤ W.heap.size := hB.size
      have hs0 : w.heap.size < s := by have := Hw1.out.2; have := Hs.out; omega
      have Hrow1 := Lib.hid hrow1
      have Hbx := Lib.hid (And.intro bv1 bq1)
      have hcn := cell_one_new (W.setCell ⟨s + 1, 0, none⟩ (.int .u32 ((x1 + y1 + q) / 1000000000))) (.int .u32 ((x1 + y1 + q) % 1000000000)) 34
      rw [show (W.setCell ⟨s + 1, 0, none⟩ (.int .u32 ((x1 + y1 + q) / 1000000000))).heap.size = W.heap.size from by simp [World.setCell]] at hcn
      have Hcn := Lib.hid hcn
      clear hrow1 bv1 bq1 hcn
      gi_wp2_with (gi_at_builtin; go_must (refine wpListIn_append_own_at _ rfl _ _ 23 rfl w.heap.size 34 i0 (.int .u32 0) 1 4 Tryd.underlying23 hi hz0 hz1 hz2 rfl (by decide) v _ _ rfl (World.ownsRow.alloc Hrow1.out _) ⟨W.heap.size, 0, none⟩ 1 1 [.int .u32 ((x1 + y1 + q) % 1000000000)] rfl rfl Hcn.out (by simp [Value.oneCell']) (by have := hlen.out; unfold maxLen; omega) (by have := hlen.out; omega) (by simp; omega) ?_; intro v' w3 hown' hgrow _ hblk; obtain ⟨g', cap', rfl⟩ := ownsRow_succ hown'; obtain ⟨hv1, hv2, hr2, hk2, hb2⟩ := Hbx.out.1.appended (by decide) Hrow1.out (by simp [World.setCell]; omega) (by omega) hown' hgrow; have hc1 := hv1.cell; have hf1 := hv1.frozen))
      have hsc : (W.setCell ⟨s + 1, 0, none⟩ (.int .u32 ((x1 + y1 + q) / 1000000000))).heap.size = W.heap.size := by simp [World.setCell]
      have hkeep : ∀ {Bk : Nat} {t : TypeId} {u : Value}, t ≠ 34 → Bk ≠ s → Bk ≠ s + 1 → Boxed W Bk t u → Boxed (w3.setCell ⟨s, 0, none⟩ (.slice (some ⟨g', 0, none⟩) ((cel .u32 L).length + 1) cap')) Bk t u := by
        intro Bk t u ht h1 h2 hb
        have hb1 := hb.kept (grownBy_setCell' W (s + 1) (.int .u32 ((x1 + y1 + q) / 1000000000))) (by simp; omega)
        exact ((hb1.alloc _).kept hgrow (hb1.not_row ht Hrow1.out)).kept (grownBy_setCell' w3 s _) (by simp; omega)
      have hb4 : Below w.heap.size W (w3.setCell ⟨s, 0, none⟩ (.slice (some ⟨g', 0, none⟩) ((cel .u32 L).length + 1) cap')) := ((Below.refl w.heap.size W).setCell (p := ⟨s + 1, 0, none⟩) (by show _ ≤ s + 1; omega) _).trans hb2
      have bq4 := ((Hbx.out.2.alloc (.cells #[.int .u32 ((x1 + y1 + q) % 1000000000)] 34)).kept hgrow (fun h => hvn h.symm)).kept (grownBy_setCell' w3 s (.slice (some ⟨g', 0, none⟩) ((cel .u32 L).length + 1) cap')) (by simp)
      have hr4 : Own (w3.setCell ⟨s, 0, none⟩ (.slice (some ⟨g', 0, none⟩) ((cel .u32 L).length + 1) cap')) w.heap.size 34 (.slice (some ⟨g', 0, none⟩) ((cel .u32 L).length + 1) cap') (cel .u32 (L ++ [((x1 + y1 + q) % 1000000000).toNat])) := by
        have := hr2
        rw [cel_snoc .u32 L ((x1 + y1 + q) % 1000000000).toNat _ (by omega)] at this
        have e : (cel .u32 (L ++ [((x1 + y1 + q) % 1000000000).toNat])).length = (cel .u32 L).length + 1 := by rw [cel_length, cel_length, List.length_append]; rfl
        unfold Own
        rw [e]
        exact this
      have hblk4 : Value.ownBlock (.slice (some ⟨g', 0, none⟩) ((cel .u32 L).length + 1) cap') ≠ some (s + 1) := by
        rcases hblk with h | h
        · rw [h]; exact hvn
        · rw [h, World.size_alloc, hsc]
          simp
          omega
      refine ⟨((KeepsOthers.setCell W _ _).trans hk2).from _, ⟨hb4, fun h => hkeep (by decide) (by omega) (by omega) h, fun h => hkeep (by decide) (by omega) (by omega) h, fun h => hkeep (by decide) (by omega) (by omega) h⟩,
        ⟨_, _, _, hv2, bq4, hr4, hblk4, by omega, by omega, ?_⟩, hB.trans hb4⟩
      have := AddAt.step (x := x1) (y := y1) (q' := (x1 + y1 + q) / 1000000000) (r := (x1 + y1 + q) % 1000000000) hadd.out (by omega) (by omega) (by omega)
      rw [List.map_append]
      exact this
    case done =>
      rintro D xs W hD rfl ⟨⟨v, q, L, bv, bq, hown, hvn, hq0, hq1, hadd⟩, hB⟩ hK
      have hfin := hadd.out.done (x := x) (y := y) (M := M) (by rw [upto, List.map_map]; rfl) HM.out
      have Hfin := Lib.hid hfin
      clear hfin hadd
      have Hown := Lib.hid hown
      obtain ⟨A', c', hv, _, _, _⟩ := hown.sl
      subst hv
      have hc := bv.cell
      have hcq := bq.cell
      have hfo := bv.frozen
      clear hown
      have hDw : w.heap.size ≤ D := by omega
      rcases Int.lt_or_le 0 q with hqp | hqz
      · obtain rfl : q = 1 := by omega
        have HL := Lib.hid (Hfin.out.2.2 rfl)
        have HLl := Lib.hid Hfin.out.1
        clear Hfin
        obtain ⟨i0, hi, hz0, hz1, hz2⟩ := info_parts u32_info
        have hlen : Hid ((cel .u32 L).length ≤ 1024) := by rw [Hid, cel_length, HLl.out]; exact hMc
        have hszW : w.heap.size ≤ W.heap.size := hB.size
        have hs0 : w.heap.size < s := by have := Hw1.out.2; have := Hs.out; omega
        have hcn := Lib.hid (cell_one_new W (.int .u32 1) 34)
        have HDW := Lib.hid hK
        clear hK
        go_wp2_with (at_builtin; go_must (refine wpList_append_own_at _ rfl _ _ 23 rfl w.heap.size 34 i0 (.int .u32 0) 1 4 Tryd.underlying23 hi hz0 hz1 hz2 rfl (by decide) _ _ _ rfl (World.ownsRow.alloc Hown.out _) ⟨W.heap.size, 0, none⟩ 1 1 [.int .u32 1] rfl rfl hcn.out (by simp [Value.oneCell']) (by have := hlen.out; unfold maxLen; omega) (by have := hlen.out; omega) (by simp; omega) ?_; intro v' w3 hown' hgrow _ hblk; obtain ⟨g', cap', rfl⟩ := ownsRow_succ hown'; obtain ⟨hv1, hv2, hr2, hk2, hb2⟩ := bv.appended (by decide) Hown.out (by omega) (by omega) hown' hgrow; have hc1 := hv1.cell; have hf1 := hv1.frozen))
        have hK4 := hk2.same D _ HDW.out rfl
        have hr4 : Own (w3.setCell ⟨s, 0, none⟩ (.slice (some ⟨g', 0, none⟩) ((cel .u32 L).length + 1) cap')) w.heap.size 34 (.slice (some ⟨g', 0, none⟩) ((cel .u32 L).length + 1) cap') (cel .u32 (L ++ [1])) := by
          have := hr2
          rw [cel_snoc .u32 L 1 _ (by omega)] at this
          have e : (cel .u32 (L ++ [1])).length = (cel .u32 L).length + 1 := by rw [cel_length, cel_length, List.length_append]; rfl
          unfold Own
          rw [e]
          exact this
        have hB4 := hB.trans hb2
        have hIs : Hid (IsN (w3.setCell ⟨s, 0, none⟩ (.slice (some ⟨g', 0, none⟩) ((cel .u32 L).length + 1) cap')) w.heap.size (w3.setCell ⟨s, 0, none⟩ (.slice (some ⟨g', 0, none⟩) ((cel .u32 L).length + 1) cap')).heap.size (.slice (some ⟨g', 0, none⟩) ((cel .u32 L).length + 1) cap') (x + y)) := by
          unfold Hid IsN
          rw [HL.out]
          exact Own.isL hr4
        generalize hW4 : w3.setCell ⟨s, 0, none⟩ (.slice (some ⟨g', 0, none⟩) ((cel .u32 L).length + 1) cap') = W4 at *
        clear hW4
        refine (bounded_n hIs.out).mono ?_
        rintro e w6 ⟨rfl, rfl⟩
        have hBK : Below w.heap.size w (W4.putObj D (.deferred none)) := hB4.trans (belowK_b (w := w) (Nat.le_refl _) W4 D _ _ hDw hK4 rfl rfl)
        have hIs2 : IsN (W4.putObj D (.deferred none)) w.heap.size (W4.putObj D (.deferred none)).heap.size (.slice (some ⟨g', 0, none⟩) ((cel .u32 L).length + 1) cap') (x + y) := by
          unfold IsN
          rw [HL.out]
          exact Own.isL (ownsRow_putObj hr4 _ hK4 rfl)
        by_cases hle : (lim (x + y)).length ≤ 1024
        · simp only [if_pos hle]
          have Hle := Lib.hid hle
          clear hle
          go_wp2_with fail
          refine ⟨by simp, .inl ⟨_, _, rfl, run_takeDeferred hK4, ?_⟩⟩
          exact ⟨_, results_tmp2 rfl _ _ _, ⟨_, ret_v (fite_le Hle.out).symm, by rw [fitv_le Hle.out]; exact hIs2⟩, hBK⟩
        · simp only [if_neg hle]
          have Hle := Lib.hid hle
          clear hle
          go_wp2_with fail
          refine ⟨by simp, .inl ⟨_, _, rfl, run_takeDeferred hK4, ?_⟩⟩
          exact ⟨_, results_tmp2 rfl _ _ _, ⟨_, ret_v (fite_gt Hle.out).symm, by rw [fitv_gt Hle.out]; exact IsN.zero⟩, hBK⟩
      · obtain rfl : q = 0 := by omega
        have hIs : Hid (IsN W w.heap.size W.heap.size (.slice A' (cel .u32 L).length c') (x + y)) := by
          unfold Hid IsN
          rw [Hfin.out.2.1 rfl]
          exact Own.isL Hown.out
        have hIs2 : Hid (IsN (W.putObj D (.deferred none)) w.heap.size (W.putObj D (.deferred none)).heap.size (.slice A' (cel .u32 L).length c') (x + y)) := by
          unfold Hid IsN
          rw [Hfin.out.2.1 rfl]
          exact Own.isL (ownsRow_putObj Hown.out _ hK rfl)
        go_wp2_with fail
        refine (bounded_n hIs.out).mono ?_
        rintro e w6 ⟨rfl, rfl⟩
        have hBK : Below w.heap.size w (W.putObj D (.deferred none)) := hB.trans (belowK_b (w := w) (Nat.le_refl _) W D _ _ hDw hK rfl rfl)
        by_cases hle : (lim (x + y)).length ≤ 1024
        · simp only [if_pos hle]
          have Hle := Lib.hid hle
          clear hle
          go_wp2_with fail
          refine ⟨by simp, .inl ⟨_, _, rfl, run_takeDeferred hK, ?_⟩⟩
          exact ⟨_, results_tmp2 rfl _ _ _, ⟨_, ret_v (fite_le Hle.out).symm, by rw [fitv_le Hle.out]; exact hIs2.out⟩, hBK⟩
        · simp only [if_neg hle]
          have Hle := Lib.hid hle
          clear hle
          go_wp2_with fail
          refine ⟨by simp, .inl ⟨_, _, rfl, run_takeDeferred hK, ?_⟩⟩
          exact ⟨_, results_tmp2 rfl _ _ _, ⟨_, ret_v (fite_gt Hle.out).symm, by rw [fitv_gt Hle.out]; exact IsN.zero⟩, hBK⟩
    case stop =>
      rintro D c pre W _ _ h _
      exact h.elim
  · go_wp2_with fail
    refine (first_two (Ha.out.alloc (Nat.le_refl _) _) (Hb.out.alloc (Nat.le_refl _) _) (two_new _ _ _ _).1 (two_new _ _ _ _).2).mono ?_
    rw [Hf.out]
    rintro e w1 ⟨rfl, rfl⟩
    go_wp2_with (at_make; refine wp_make0 (base := w.heap.size) elN rfl _ _ rfl ((lim y).length + 1) rfl rfl (by omega) (by omega) (by simp) ?_; intro v0 w1 hown0 hb1 hz1; obtain ⟨A0, c0, hv0, _, _, _⟩ := hown0.sl; rw [List.length_nil] at hv0; subst hv0)
    have hb1' : Below w.heap.size w w1 := ((Below.refl _ w).alloc (Nat.le_refl _) _).trans (hb1.mono (by simp))
    have hb2 : Below w.heap.size w ((w1.alloc (.cells #[.slice A0 0 c0] 23)).alloc (.cells #[.int .u32 0] 34)) := (hb1'.alloc hb1'.size _).alloc (by rw [World.size_alloc]; have := hb1'.size; omega) _
    have bO := (Boxed.new w1 23 (.slice A0 0 c0)).alloc (.cells #[.int .u32 0] 34)
    have bC := Boxed.new (w1.alloc (.cells #[.slice A0 0 c0] 23)) 34 (.int .u32 0)
    rw [World.size_alloc] at bC
    have hown2 := (hown0.alloc (.cells #[.slice A0 0 c0] 23)).alloc (.cells #[.int .u32 0] 34)
    have hsz : w.heap.size < w1.heap.size := by have := hz1; rw [World.size_alloc] at this; omega
    have Hw1 := Lib.hid (And.intro hb1' hsz)
    have hne : Value.ownBlock (.slice A0 0 c0) ≠ some (w1.heap.size + 1) := fun h => by have := (World.ownsRow.lt hown0 _ h).2; omega
    clear hb1 hz1 hb1' hown0
    refine (limbs_n _ _ _ (a := lim x) (b := lim y) (Ha.out.below hb2 (Nat.le_refl _)) (Hb.out.below hb2 (Nat.le_refl _))).mono ?_
    rintro e w2 ⟨rfl, hb3, bA, bB, bF, hz3⟩
    have hbw := Lib.hid (below_trans' hb2 hb3)
    have bO2 : Boxed w2 w1.heap.size 23 (.slice A0 0 c0) := (hb3.block _ bO.lt).trans bO
    have bC2 : Boxed w2 (w1.heap.size + 1) 34 (.int .u32 0) := (hb3.block _ bC.lt).trans bC
    have hown3 := hown2.below hb3
    simp only [World.size_alloc] at bA bB bF hz3 ⊢
    generalize hs : w1.heap.size = s at *
    have HF := Lib.hid (And.intro bA (And.intro bB (And.intro bF (And.intro bO2 (And.intro bC2 hown3)))))
    clear bA bB bF bO2 bC2 hown3 bO bC hown2 hb2 hb3
    have Hz := Lib.hid hz3
    have Hs := Lib.hid hs
    have hne0 := Lib.hid hne
    clear hz3 hs hne
    go_wp2_with fail
    refine (wpIn_wide (n := 3)).1 ?_
    have hn0 : w.heap.size ≤ w2.heap.size := hbw.out.size
    refine wpIn_rangeFunc_ownG rfl (by omega) (gf := 67) (lb := #[.pointer (some ⟨s + 1 + 1, 0, none⟩), .pointer (some ⟨s + 1 + 1 + 1, 0, none⟩), .pointer (some ⟨s + 1 + 1 + 2, 0, none⟩)]) rfl trivial (enters_of Tryd.func67 (by kernel_rfl) rfl)
      (limbs_seq 2 (by omega) w.heap.size (s + 1 + 1) _ _ (lim x) (lim y) (lo_lim x) (lo_lim y) M HM.out (by omega) w2 (by rw [Hz.out]; omega) HF.out.1 HF.out.2.1 HF.out.2.2.1 (Ha.out.below hbw.out (Nat.le_refl _)) (Hb.out.below hbw.out (Nat.le_refl _)) hn0)
      kp3_t (kp3_b hn0) (Below.refl _ _) (fun _ => rfl)
      (fun pre W => AddInv w.heap.size s pre W ∧ Below w.heap.size w W) (fun _ _ _ => False)
      (OwnFrom.and (Own.from (addInv_own _ _) _) (ownFrom_below (Nat.le_refl _) hn0)) (fun _ _ _ _ _ hs _ _ => hs)
      ⟨⟨_, 0, [], HF.out.2.2.2.1, HF.out.2.2.2.2.1, HF.out.2.2.2.2.2, hne0.out, by omega, by omega, AddAt.start⟩, hbw.out⟩ ?a2 ?assign2 ?body2 ?done2 ?stop2
    case assign2 =>
      intro l x W K hK
      gi_wp2
      exact hK
    case body2 =>
      rintro l pre ⟨⟨x1, y1⟩, hx1, hy1⟩ W ⟨⟨v, q, L, bv, bq, hown, hvn, hq0, hq1, hadd⟩, hB⟩ hlt
      dsimp only at hx1 hy1 ⊢
      have hc := bv.cell
      have hcq := bq.cell
      have hfq := bq.frozen
      have hfo := bv.frozen
      obtain ⟨i0, hi, hz0, hz1, hz2⟩ := info_parts u32_info
      have hsW := bq.lt
      have hlen : Hid ((cel .u32 L).length ≤ 1024) := by rw [Hid, cel_length, hadd.out.1, List.length_map]; omega
      have hrow1 := World.ownsRow.kept hown (grownBy_setCell' W (s + 1) (.int .u32 ((x1 + y1 + q) / 1000000000))) (.inr hvn)
      have bv1 := bv.kept (grownBy_setCell' W (s + 1) (.int .u32 ((x1 + y1 + q) / 1000000000))) (by simp)
      have bq1 := bq.set (.int .u32 ((x1 + y1 + q) / 1000000000))
      have hszW : w.heap.size ≤ W.heap.size := hB.size
      have hs0 : w.heap.size < s := by have := Hw1.out.2; have := Hs.out; omega
      have Hrow1 := Lib.hid hrow1
      have Hbx := Lib.hid (And.intro bv1 bq1)
      have hcn := cell_one_new (W.setCell ⟨s + 1, 0, none⟩ (.int .u32 ((x1 + y1 + q) / 1000000000))) (.int .u32 ((x1 + y1 + q) % 1000000000)) 34
      rw [show (W.setCell ⟨s + 1, 0, none⟩ (.int .u32 ((x1 + y1 + q) / 1000000000))).heap.size = W.heap.size from by simp [World.setCell]] at hcn
      have Hcn := Lib.hid hcn
      clear hrow1 bv1 bq1 hcn
      gi_wp2_with (gi_at_builtin; go_must (refine wpListIn_append_own_at _ rfl _ _ 23 rfl w.heap.size 34 i0 (.int .u32 0) 1 4 Tryd.underlying23 hi hz0 hz1 hz2 rfl (by decide) v _ _ rfl (World.ownsRow.alloc Hrow1.out _) ⟨W.heap.size, 0, none⟩ 1 1 [.int .u32 ((x1 + y1 + q) % 1000000000)] rfl rfl Hcn.out (by simp [Value.oneCell']) (by have := hlen.out; unfold maxLen; omega) (by have := hlen.out; omega) (by simp; omega) ?_; intro v' w3 hown' hgrow _ hblk; obtain ⟨g', cap', rfl⟩ := ownsRow_succ hown'; obtain ⟨hv1, hv2, hr2, hk2, hb2⟩ := Hbx.out.1.appended (by decide) Hrow1.out (by simp [World.setCell]; omega) (by omega) hown' hgrow; have hc1 := hv1.cell; have hf1 := hv1.frozen))
      have hsc : (W.setCell ⟨s + 1, 0, none⟩ (.int .u32 ((x1 + y1 + q) / 1000000000))).heap.size = W.heap.size := by simp [World.setCell]
      have hkeep : ∀ {Bk : Nat} {t : TypeId} {u : Value}, t ≠ 34 → Bk ≠ s → Bk ≠ s + 1 → Boxed W Bk t u → Boxed (w3.setCell ⟨s, 0, none⟩ (.slice (some ⟨g', 0, none⟩) ((cel .u32 L).length + 1) cap')) Bk t u := by
        intro Bk t u ht h1 h2 hb
        have hb1 := hb.kept (grownBy_setCell' W (s + 1) (.int .u32 ((x1 + y1 + q) / 1000000000))) (by simp; omega)
        exact ((hb1.alloc _).kept hgrow (hb1.not_row ht Hrow1.out)).kept (grownBy_setCell' w3 s _) (by simp; omega)
      have hb4 : Below w.heap.size W (w3.setCell ⟨s, 0, none⟩ (.slice (some ⟨g', 0, none⟩) ((cel .u32 L).length + 1) cap')) := ((Below.refl w.heap.size W).setCell (p := ⟨s + 1, 0, none⟩) (by show _ ≤ s + 1; omega) _).trans hb2
      have bq4 := ((Hbx.out.2.alloc (.cells #[.int .u32 ((x1 + y1 + q) % 1000000000)] 34)).kept hgrow (fun h => hvn h.symm)).kept (grownBy_setCell' w3 s (.slice (some ⟨g', 0, none⟩) ((cel .u32 L).length + 1) cap')) (by simp)
      have hr4 : Own (w3.setCell ⟨s, 0, none⟩ (.slice (some ⟨g', 0, none⟩) ((cel .u32 L).length + 1) cap')) w.heap.size 34 (.slice (some ⟨g', 0, none⟩) ((cel .u32 L).length + 1) cap') (cel .u32 (L ++ [((x1 + y1 + q) % 1000000000).toNat])) := by
        have := hr2
        rw [cel_snoc .u32 L ((x1 + y1 + q) % 1000000000).toNat _ (by omega)] at this
        have e : (cel .u32 (L ++ [((x1 + y1 + q) % 1000000000).toNat])).length = (cel .u32 L).length + 1 := by rw [cel_length, cel_length, List.length_append]; rfl
        unfold Own
        rw [e]
        exact this
      have hblk4 : Value.ownBlock (.slice (some ⟨g', 0, none⟩) ((cel .u32 L).length + 1) cap') ≠ some (s + 1) := by
        rcases hblk with h | h
        · rw [h]; exact hvn
        · rw [h, World.size_alloc, hsc]
          simp
          omega
      refine ⟨((KeepsOthers.setCell W _ _).trans hk2).from _, ⟨hb4, fun h => hkeep (by decide) (by omega) (by omega) h, fun h => hkeep (by decide) (by omega) (by omega) h, fun h => hkeep (by decide) (by omega) (by omega) h⟩,
        ⟨_, _, _, hv2, bq4, hr4, hblk4, by omega, by omega, ?_⟩, hB.trans hb4⟩
      have := AddAt.step (x := x1) (y := y1) (q' := (x1 + y1 + q) / 1000000000) (r := (x1 + y1 + q) % 1000000000) hadd.out (by omega) (by omega) (by omega)
      rw [List.map_append]
      exact this
    case done2 =>
      rintro D xs W hD rfl ⟨⟨v, q, L, bv, bq, hown, hvn, hq0, hq1, hadd⟩, hB⟩ hK
      have hfin := hadd.out.done (x := x) (y := y) (M := M) (by rw [upto, List.map_map]; rfl) HM.out
      have Hfin := Lib.hid hfin
      clear hfin hadd
      have Hown := Lib.hid hown
      obtain ⟨A', c', hv, _, _, _⟩ := hown.sl
      subst hv
      have hc := bv.cell
      have hcq := bq.cell
      have hfo := bv.frozen
      clear hown
      have hDw : w.heap.size ≤ D := by omega
      rcases Int.lt_or_le 0 q with hqp | hqz
      · obtain rfl : q = 1 := by omega
        have HL := Lib.hid (Hfin.out.2.2 rfl)
        have HLl := Lib.hid Hfin.out.1
        clear Hfin
        obtain ⟨i0, hi, hz0, hz1, hz2⟩ := info_parts u32_info
        have hlen : Hid ((cel .u32 L).length ≤ 1024) := by rw [Hid, cel_length, HLl.out]; exact hMc
        have hszW : w.heap.size ≤ W.heap.size := hB.size
        have hs0 : w.heap.size < s := by have := Hw1.out.2; have := Hs.out; omega
        have hcn := Lib.hid (cell_one_new W (.int .u32 1) 34)
        have HDW := Lib.hid hK
        clear hK
        go_wp2_with (at_builtin; go_must (refine wpList_append_own_at _ rfl _ _ 23 rfl w.heap.size 34 i0 (.int .u32 0) 1 4 Tryd.underlying23 hi hz0 hz1 hz2 rfl (by decide) _ _ _ rfl (World.ownsRow.alloc Hown.out _) ⟨W.heap.size, 0, none⟩ 1 1 [.int .u32 1] rfl rfl hcn.out (by simp [Value.oneCell']) (by have := hlen.out; unfold maxLen; omega) (by have := hlen.out; omega) (by simp; omega) ?_; intro v' w3 hown' hgrow _ hblk; obtain ⟨g', cap', rfl⟩ := ownsRow_succ hown'; obtain ⟨hv1, hv2, hr2, hk2, hb2⟩ := bv.appended (by decide) Hown.out (by omega) (by omega) hown' hgrow; have hc1 := hv1.cell; have hf1 := hv1.frozen))
        have hK4 := hk2.same D _ HDW.out rfl
        have hr4 : Own (w3.setCell ⟨s, 0, none⟩ (.slice (some ⟨g', 0, none⟩) ((cel .u32 L).length + 1) cap')) w.heap.size 34 (.slice (some ⟨g', 0, none⟩) ((cel .u32 L).length + 1) cap') (cel .u32 (L ++ [1])) := by
          have := hr2
          rw [cel_snoc .u32 L 1 _ (by omega)] at this
          have e : (cel .u32 (L ++ [1])).length = (cel .u32 L).length + 1 := by rw [cel_length, cel_length, List.length_append]; rfl
          unfold Own
          rw [e]
          exact this
        have hB4 := hB.trans hb2
        have hIs : Hid (IsN (w3.setCell ⟨s, 0, none⟩ (.slice (some ⟨g', 0, none⟩) ((cel .u32 L).length + 1) cap')) w.heap.size (w3.setCell ⟨s, 0, none⟩ (.slice (some ⟨g', 0, none⟩) ((cel .u32 L).length + 1) cap')).heap.size (.slice (some ⟨g', 0, none⟩) ((cel .u32 L).length + 1) cap') (x + y)) := by
          unfold Hid IsN
          rw [HL.out]
          exact Own.isL hr4
        generalize hW4 : w3.setCell ⟨s, 0, none⟩ (.slice (some ⟨g', 0, none⟩) ((cel .u32 L).length + 1) cap') = W4 at *
        clear hW4
        refine (bounded_n hIs.out).mono ?_
        rintro e w6 ⟨rfl, rfl⟩
        have hBK : Below w.heap.size w (W4.putObj D (.deferred none)) := hB4.trans (belowK_b (w := w) (Nat.le_refl _) W4 D _ _ hDw hK4 rfl rfl)
        have hIs2 : IsN (W4.putObj D (.deferred none)) w.heap.size (W4.putObj D (.deferred none)).heap.size (.slice (some ⟨g', 0, none⟩) ((cel .u32 L).length + 1) cap') (x + y) := by
          unfold IsN
          rw [HL.out]
          exact Own.isL (ownsRow_putObj hr4 _ hK4 rfl)
        by_cases hle : (lim (x + y)).length ≤ 1024
        · simp only [if_pos hle]
          have Hle := Lib.hid hle
          clear hle
          go_wp2_with fail
          refine ⟨by simp, .inl ⟨_, _, rfl, run_takeDeferred hK4, ?_⟩⟩
          exact ⟨_, results_tmp2 rfl _ _ _, ⟨_, ret_v (fite_le Hle.out).symm, by rw [fitv_le Hle.out]; exact hIs2⟩, hBK⟩
        · simp only [if_neg hle]
          have Hle := Lib.hid hle
          clear hle
          go_wp2_with fail
          refine ⟨by simp, .inl ⟨_, _, rfl, run_takeDeferred hK4, ?_⟩⟩
          exact ⟨_, results_tmp2 rfl _ _ _, ⟨_, ret_v (fite_gt Hle.out).symm, by rw [fitv_gt Hle.out]; exact IsN.zero⟩, hBK⟩
      · obtain rfl : q = 0 := by omega
        have hIs : Hid (IsN W w.heap.size W.heap.size (.slice A' (cel .u32 L).length c') (x + y)) := by
          unfold Hid IsN
          rw [Hfin.out.2.1 rfl]
          exact Own.isL Hown.out
        have hIs2 : Hid (IsN (W.putObj D (.deferred none)) w.heap.size (W.putObj D (.deferred none)).heap.size (.slice A' (cel .u32 L).length c') (x + y)) := by
          unfold Hid IsN
          rw [Hfin.out.2.1 rfl]
          exact Own.isL (ownsRow_putObj Hown.out _ hK rfl)
        go_wp2_with fail
        refine (bounded_n hIs.out).mono ?_
        rintro e w6 ⟨rfl, rfl⟩
        have hBK : Below w.heap.size w (W.putObj D (.deferred none)) := hB.trans (belowK_b (w := w) (Nat.le_refl _) W D _ _ hDw hK rfl rfl)
        by_cases hle : (lim (x + y)).length ≤ 1024
        · simp only [if_pos hle]
          have Hle := Lib.hid hle
          clear hle
          go_wp2_with fail
          refine ⟨by simp, .inl ⟨_, _, rfl, run_takeDeferred hK, ?_⟩⟩
          exact ⟨_, results_tmp2 rfl _ _ _, ⟨_, ret_v (fite_le Hle.out).symm, by rw [fitv_le Hle.out]; exact hIs2.out⟩, hBK⟩
        · simp only [if_neg hle]
          have Hle := Lib.hid hle
          clear hle
          go_wp2_with fail
          refine ⟨by simp, .inl ⟨_, _, rfl, run_takeDeferred hK, ?_⟩⟩
          exact ⟨_, results_tmp2 rfl _ _ _, ⟨_, ret_v (fite_gt Hle.out).symm, by rw [fitv_gt Hle.out]; exact IsN.zero⟩, hBK⟩
    case stop2 =>
      rintro D c pre W _ _ h _
      exact h.elim

set_option maxHeartbeats 400000 in
theorem nadd_bad {w : World} {va vb : Value} {a b : List Nat} {lo hi lo' hi' : Nat} (ha : IsL .u32 w lo hi va a) (hb : IsL .u32 w lo' hi' vb b) (hi1 : hi ≤ w.heap.size) (hi2 : hi' ≤ w.heap.size) (he : fst2 (chk a) (chk b) ≠ 0) :
    Calls Tryd.prog 28 #[va, vb] w fun e w' => e = .returned (.tuple #[.slice none 0 0, .int .i64 (fst2 (chk a) (chk b))]) ∧ Below w.heap.size w w' := by
  have Ha := Lib.hid ha
  have Hb := Lib.hid hb
  obtain ⟨A, c, rfl, _, _, _⟩ := ha
  obtain ⟨B, d, rfl, _, _, _⟩ := hb
  have hne : (fst2 (chk a) (chk b) != 0) = true := bne_iff_ne.2 he
  clear he
  go_enter Tryd.func28, Tryd.ntmps28
  go_wp2_with fail
  refine (first_two (Ha.out.alloc hi1 _) (Hb.out.alloc hi2 _) (two_new _ _ _ _).1 (two_new _ _ _ _).2).mono ?_
  rintro e w1 ⟨rfl, rfl⟩
  go_wp2_with fail
  go_ret2
  exact ⟨rfl, (Below.refl _ _).alloc (Nat.le_refl _) _⟩

theorem nadd_l {w : World} {va vb : Value} {a b : List Nat} {lo hi lo' hi' : Nat} (ha : IsL .u32 w lo hi va a) (hb : IsL .u32 w lo' hi' vb b) (hi1 : hi ≤ w.heap.size) (hi2 : hi' ≤ w.heap.size) :
    Calls Tryd.prog 28 #[va, vb] w fun e w' => (∃ v, e = .returned (.tuple #[v, .int .i64 (op2e a b (val a + val b))]) ∧ IsN w' w.heap.size w'.heap.size v (op2 a b (val a + val b))) ∧ Below w.heap.size w w' := by
  by_cases h : fst2 (chk a) (chk b) = 0
  · obtain ⟨h1, h2⟩ := fst2_zero h
    have := nadd_ok ((ha.isN h1).wide (Nat.zero_le _) hi1) ((hb.isN h2).wide (Nat.zero_le _) hi2) (chk_len h1) (chk_len h2)
    rw [op2, op2e, if_pos h, if_pos h]
    exact this
  · have := nadd_bad ha hb hi1 hi2 h
    rw [op2, op2e, if_neg h, if_neg h]
    exact this.mono fun e w' ⟨he, hw⟩ => ⟨⟨_, he, IsN.zero⟩, hw⟩
end Go.Proofs.YtbeocfiimminiaaDoor
