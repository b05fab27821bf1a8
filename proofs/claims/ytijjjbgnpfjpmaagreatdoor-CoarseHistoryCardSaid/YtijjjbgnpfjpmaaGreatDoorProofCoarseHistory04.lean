/-
  The zaf of package coarse's read, at forms that are right.
-/
import Derived.Test.YtijjjbgnpfjpmaaGreatDoorProofCoarseHistory03
import Derived.Test.YtijjjbgnpfjpmaaGreatDoorCoh04
import Derived.Deep.DeepCutAuto
import Derived.RangeFuncFrom
import Derived.RangeFuncNested
import Derived.BigRegion
import Derived.LoopIn
import Derived.LoopNIn
import Derived.OwnWalkIn
import Derived.RangeFuncCalls
import Derived.RangeFuncLeaves
import Derived.Shelf.Abstract
import Derived.Shelf.RegionOpen
import Derived.TacticsInMore
import Derived.WalkKit
import Derived.BigRegionIn
namespace Go.Proofs.YtijjjbgnpfjpmaaGreatDoor
open Go.RowKit
set_option linter.unusedVariables false
theorem int_info : (Tryz.prog.info? 3).map (fun i => (i.zero, i.size, i.bytes)) = some (some (.int .i64 0), 1, 8) := by kernel_rfl
theorem elI1 : ElT Tryz.prog 22 3 (.int .i64 0) 8 := ⟨Tryz.underlying22, info_parts int_info, rfl⟩
abbrev pt5 (w : World) (g : Nat) (a b c d e : Value) : World := ((((w.setCell ⟨g, 0, none⟩ a).setCell ⟨g, 1, none⟩ b).setCell ⟨g, 2, none⟩ c).setCell ⟨g, 3, none⟩ d).setCell ⟨g, 4, none⟩ e
theorem Row.pt5 {w : World} {g : Nat} {t : TypeId} {x0 x1 x2 x3 x4 : Value} (h : Row w g t [x0, x1, x2, x3, x4]) (a b c d e : Value) : Row (pt5 w g a b c d e) g t [a, b, c, d, e] := ((((h.set_ 0 a).set_ 1 b).set_ 2 c).set_ 3 d).set_ 4 e
theorem Row.far5 {w : World} {g g' : Nat} {t : TypeId} {xs : List Value} (h : Row w g' t xs) (hg : g' ≠ g) (a b c d e : Value) : Row (Go.Proofs.YtijjjbgnpfjpmaaGreatDoor.pt5 w g a b c d e) g' t xs :=
  ((((h.far (p := ⟨g, 0, none⟩) hg a).far (p := ⟨g, 1, none⟩) hg b).far (p := ⟨g, 2, none⟩) hg c).far (p := ⟨g, 3, none⟩) hg d).far (p := ⟨g, 4, none⟩) hg e
theorem zbs {w w1 : World} {n g : Nat} (h : Below n w w1) (hg : n ≤ g) (a b c d e : Value) : Below n w (pt5 w1 g a b c d e) :=
  ((((h.setCell (p := ⟨g, 0, none⟩) hg a).setCell (p := ⟨g, 1, none⟩) hg b).setCell (p := ⟨g, 2, none⟩) hg c).setCell (p := ⟨g, 3, none⟩) hg d).setCell (p := ⟨g, 4, none⟩) hg e
theorem hp5 {w : World} {V : Nat} {S : World → Prop} (h : Hid (∀ W : World, Below w.heap.size w W → S W)) (r : NeL V S) : Hid (∀ W : World, Below w.heap.size w W → ∀ a b c d e, S (pt5 W V a b c d e)) := fun W hW x0 x1 x2 x3 x4 =>
  r (fun W => Go.Proofs.YtijjjbgnpfjpmaaGreatDoor.pt5 W V x0 x1 x2 x3 x4) (fun b o v W n h => by
    have k : ∀ (W : World) (i : Nat) (u : Value), W.cell? ⟨b, o, none⟩ = some v → (W.setCell ⟨V, i, none⟩ u).cell? ⟨b, o, none⟩ = some v := fun W i u h => (World.cell?_setCell_other _ _ _ _ (fun e => n (by cases e; rfl))).trans h
    exact k _ _ _ (k _ _ _ (k _ _ _ (k _ _ _ (k _ _ _ h))))) W (h.out W hW)
def RetForm (w : World) (v : Value) (sz : List Nat) (ps : List (List Rat)) (e : Ending) (w' : World) : Prop :=
  (∃ A a B b S P p, v = .agg #[.slice A sz.length a, .slice B ps.length b] ∧ e = .returned (.tuple #[.agg #[.slice A sz.length a, .slice B ps.length b, .slice (some ⟨S, 0, none⟩) sz.length sz.length, .int .i64 ((prd sz : Nat) : Int), .slice P ps.length p], .int .i64 0]) ∧
    w.heap.size ≤ S ∧ Row w' S 3 (cel .i64 (stp sz)) ∧ IsFM w' (.slice P ps.length p) ps) ∧ Below w.heap.size w w'
theorem step_own {P : Program} {w : World} {o : Oper} {a : Act} {K : Act → World → Prop} {Q : Exit → Act → World → Prop} {t e te : TypeId} {z : Value} {bytes base : Nat} (E : ElT P t e z bytes) (s x : Operand) (ho : o.op = .call { callee := .builtin .append, args := #[s, x], argTypes := #[t, t] })
    {v u : Value} {xs : List Value} (hs : a.eval s = v) (hown : Own w base e v xs) (hx : a.eval x = .slice (some ⟨w.heap.size, 0, none⟩) 1 1) (h1 : u.oneCell' = true) (hb : (xs.length + 1) * (bytes + 1) ≤ 140737488355328) (hbase : base ≤ w.heap.size)
    (h : ∀ v' w', Own w' base e v' (xs ++ [u]) → (w.alloc (.cells #[u] te)).grownBy w' v.ownBlock → K (a.put o.dst v') w') : o.wp P a (w.alloc (.cells #[u] te)) K Q := by
  obtain ⟨i, hi, hz, hsz, hby⟩ := E.info
  rw [Nat.mul_add, Nat.mul_one] at hb
  refine wp_app (w.alloc (.cells #[u] te)) s x t ho base e i z 1 bytes E.und hi hz hsz hby E.zc og v xs.length xs hs (hown.alloc _) w.heap.size (w.heap.size + 1) _ 1 1 [u] hx rfl (sv_one w u te) (by intro y hy; simp at hy; subst hy; exact h1) (by unfold maxLen; omega) og (by simp; omega) fun v' w' h2 h3 _ => h v' w' ?_ h3
  unfold Own
  rw [List.length_append]
  exact h2
theorem own_ne {w : World} {base F : Nat} {e t : TypeId} {v : Value} {xs ys : List Value} (h : Own w base e v xs) (hr : Row w F t ys) (ht : t ≠ e) : some F ≠ v.ownBlock := by
  rcases h.2 with ⟨rfl, _⟩ | ⟨g, cap, cur, rfl, _, hh, _⟩
  · simp [Value.ownBlock]
  · intro e1
    simp only [Value.ownBlock, Option.some.injEq] at e1
    subst e1
    unfold Row at hr
    rw [hr] at hh
    injection hh with hh
    injection hh with _ h2
    exact ht h2
theorem Own.set {w : World} {base g : Nat} {e t : TypeId} {v : Value} {xs ys : List Value} (h : Own w base e v xs) (hr : Row w g t ys) (ht : t ≠ e) (o : Nat) (u : Value) : Own (w.setCell ⟨g, o, none⟩ u) base e v xs :=
  World.ownsRow.kept (row := some g) h ⟨rfl, rfl, rfl, by simp [World.setCell], fun k hk hne => Below.heap_setCell _ _ _ _ (fun e => hne (by rw [e]))⟩ (.inr (own_ne h hr ht).symm)
theorem kf_own {w w' : World} {base : Nat} {e : TypeId} {v : Value} {xs : List Value} (h : Own w base e v xs) (hg : w.grownBy w' v.ownBlock) (h1 : e ≠ 212) (h2 : e ≠ 160) (h3 : e ≠ 150) : KF w w' := by
  have key : ∀ (b : Nat) cs t s, w.heap[b]? = some (Obj.cells cs t s) → e ≠ t → w'.heap[b]? = w.heap[b]? := fun b cs t s hb ht => by
    refine hg.block b (zag hb) fun e1 => ?_
    rcases h.2 with ⟨rfl, _⟩ | ⟨g, cap, cur, rfl, _, hh, _⟩
    · simp [Value.ownBlock] at e1
    · simp only [Value.ownBlock, Option.some.injEq] at e1
      subst e1
      rw [hb] at hh
      injection hh with hh
      injection hh with _ h2
      exact ht h2.symm
  exact ⟨⟨⟨hg.size, fun b cs s hb => key b cs _ s hb h1⟩, fun b cs s hb => key b cs _ s hb h2⟩, fun b cs s hb => key b cs _ s hb h3⟩
theorem KF.set {w : World} {g : Nat} {t : TypeId} {xs : List Value} (hr : Row w g t xs) (h1 : t ≠ 212) (h2 : t ≠ 160) (h3 : t ≠ 150) (o : Nat) (u : Value) : KF w (w.setCell ⟨g, o, none⟩ u) := by
  refine ⟨KT.set hr h1 h2 o u, fun b cs s h => Below.heap_setCell w ⟨g, o, none⟩ u b ?_⟩
  rintro rfl
  unfold Row at hr
  rw [hr] at h
  injection h with h
  injection h with _ h4
  exact h3 h4
theorem fm_info : (Tryz.prog.info? 146).map (fun i => (i.zero, i.size, i.bytes)) = some (some (.slice none 0 0), 1, 24) := by kernel_rfl
theorem elFM : ElT Tryz.prog 135 146 (.slice none 0 0) 24 := ⟨Tryz.underlying135, info_parts fm_info, rfl⟩
theorem fm_ne : 146 ≠ 212 ∧ 146 ≠ 160 ∧ 146 ≠ 150 ∧ 137 ≠ 212 ∧ 137 ≠ 160 ∧ 137 ≠ 150 ∧ 137 ≠ 146 ∧ 3 ≠ 146 := by decide
theorem isFM_own {w : World} {base : Nat} {v : Value} {es : List Value} {ps : List (List Rat)} (h : Own w base 146 v es) (ha : All2 (IsFs w) es ps) : IsFM w v ps := by
  rcases h.2 with ⟨rfl, hn⟩ | ⟨g, cap, cur, hv, hb, hh, h1, h2, h3, h4⟩
  · have he : es = [] := List.eq_nil_of_length_eq_zero hn
    subst he
    have hp : ps = [] := List.eq_nil_of_length_eq_zero ha.1.symm
    subst hp
    exact ⟨none, 0, [], rfl, Nat.le_refl _, by unfold maxLen; omega, fun h => (h rfl).elim, All2.nil⟩
  · have hl := ha.1
    refine ⟨some ⟨g, 0, none⟩, cap, es, by rw [hv, hl], by omega, h2, fun _ => ⟨g, 0, _, _, rfl, hh, fun j u hu => ?_⟩, ha⟩
    subst hv
    have := World.ownsRow.cells h (g := g) rfl j u hu
    rw [Addr.add_lit] at this
    exact this
theorem kf_far {w w' : World} {Z : Nat} {xs : List Value} (hr : Row w Z 137 xs) (hs : w.heap.size ≤ w'.heap.size) (hk : ∀ b : Nat, b ≠ Z → w'.heap[b]? = w.heap[b]?) {v : Value} {ps : List (List Rat)} : KF w w' ∧ (IsFM w v ps → IsFM w' v ps) := by
  have key : ∀ (b : Nat) cs t s, w.heap[b]? = some (Obj.cells cs t s) → 137 ≠ t → w'.heap[b]? = w.heap[b]? := fun b cs t s hb ht => by
    refine hk b ?_
    rintro rfl
    unfold Row at hr
    rw [hr] at hb
    injection hb with hb
    injection hb with _ h2
    exact ht h2
  have h1 : KF w w' := ⟨⟨⟨hs, fun b cs s hb => key b cs _ s hb fm_ne.2.2.2.1⟩, fun b cs s hb => key b cs _ s hb fm_ne.2.2.2.2.1⟩, fun b cs s hb => key b cs _ s hb fm_ne.2.2.2.2.2.1⟩
  refine ⟨h1, fun ⟨A, c, es, hv, k1, k2, k3, k4⟩ => ⟨A, c, es, hv, k1, k2, k3.keep fun b cs s hb => key b cs _ s hb fm_ne.2.2.2.2.2.2.1, k4.imp fun _ _ h => h.kf h1⟩⟩
theorem heap_pt5 (w : World) (g : Nat) (a b c d e : Value) {k : Nat} (h : k ≠ g) : (Go.Proofs.YtijjjbgnpfjpmaaGreatDoor.pt5 w g a b c d e).heap[k]? = w.heap[k]? := by
  rw [pt5, Below.heap_setCell _ _ _ _ h, Below.heap_setCell _ _ _ _ h, Below.heap_setCell _ _ _ _ h, Below.heap_setCell _ _ _ _ h, Below.heap_setCell _ _ _ _ h]
theorem zfd {w : World} {G n : Nat} {l : List Nat} (hr : Row w G 3 (cel .i64 l)) (hn : n = l.length) (hl : l.length ≤ maxLen) : IsNs w (.slice (some ⟨G, 0, none⟩) n n) l :=
  ⟨some ⟨G, 0, none⟩, n, by rw [hn], by omega, by omega, (Row.sv hr).wide (Nat.zero_le _) hr.lt⟩
theorem ret_form {fn : Func} {slot sb : Tmp} {R : Ending → World → Prop} {a : Act} {w : World} {g : Nat} {x0 x1 x2 x3 x4 y : Value} (hr : fn.results = #[.cell slot 137, .tmp sb]) (ha : a.tmps.getD slot undef = .pointer (some ⟨g, 0, none⟩)) (hb : a.tmps.getD sb undef = y) (hd : a.defers = [])
    (h : Row w g 137 [x0, x1, x2, x3, x4]) (hR : R (.returned (.tuple #[.agg #[x0, x1, x2, x3, x4], y])) w) : bodyPost Tryz.prog fn R .ret a w := by
  refine bodyPost_ret (v := .tuple #[.agg #[x0, x1, x2, x3, x4], y]) ?_ hd hR
  obtain ⟨h0, h1, h2, h3, h4⟩ := row5 h
  have ha' : a.tmps[slot]?.getD undef = .pointer (some ⟨g, 0, none⟩) := by simpa using ha
  have hb' : a.tmps[sb]?.getD undef = y := by simpa using hb
  simp [results, hr, ha', hb', asAddr, go_sem, h0, h1, h2, h3, h4]
set_option maxRecDepth 100000 in
set_option maxHeartbeats 2000000 in
theorem read_ok {w : World} {v : Value} {sz : List Nat} {ps : List (List Rat)} (h : IsNF w v sz ps) (ok : NFok sz ps) (hB : Bru w) : Calls Tryz.prog 96 #[v] w (RetForm w v sz ps) := by
  obtain ⟨A, c, B, d, rfl, h1, h2⟩ := id h
  have H := Lib.hid h
  have H1 := Lib.hid h1
  have H2 := Lib.hid h2
  have OK := Lib.hid ok
  have HB := Lib.hid hB
  have hl4 : sz.length ≤ 4 := ok.l4
  have hpl : ps.length ≤ 4 := by rw [ok.len]; exact ok.l4
  obtain ⟨w0, hw0, hb0, rX, rZ, Hz⟩ := zbj w #[.slice A sz.length c, .slice B ps.length d] #[.slice none 0 0, .slice none 0 0, .slice none 0 0, .int .i64 0, .slice none 0 0] 64 137
  have HB0 := Lib.hid hb0
  have RX := Lib.hid rX
  have RZ := Lib.hid rZ
  obtain ⟨x0, x1⟩ := row2 rX
  clear h h1 h2 ok hB rX rZ hb0
  go_enter Tryz.func96, Tryz.ntmps96
  go_wp2_with fail
  clear hw0
  refine (ncheck_ok (H.out.next HB0.out) OK.out (Bru.next HB.out HB0.out)).mono ?_
  rintro e w1 ⟨rfl, hb1⟩
  have HB1 := Lib.hid (zaa HB0.out hb1)
  have RX1 := Lib.hid (RX.out.next hb1)
  have RZ1 := Lib.hid (RZ.out.next hb1)
  clear x0 x1 hb1
  obtain ⟨x0, x1⟩ := row2 RX1.out
  have HS := hs2 x0 x1
  obtain ⟨zs, hzs, hmk⟩ := make_rule Tryz.prog elI1 (sz.length : Int) sz.length rfl (by omega)
  have HZS := Lib.hid hzs
  clear hzs
  go_wp2_with fail
  go_cut [5] (fun p wx => ∃ F G : Nat, p = .pointer (some ⟨F, 0, none⟩) ∧ Hid (F ≠ G ∧ w1.heap.size ≤ F ∧ w1.heap.size ≤ G) ∧ Hid (Below w1.heap.size w1 wx) ∧ Hid (Row wx G 3 (cel .i64 (List.replicate sz.length 0))) ∧
    Hid (Row wx F 137 [.slice A sz.length c, .slice B ps.length d, .slice (some ⟨G, 0, none⟩) sz.length sz.length, .int .i64 1, .slice none 0 0]))
  case first =>
    refine wp_region_noPanic ?_
    refine heldD HS fun hHeld => ?_
    obtain ⟨wd, hwd⟩ : ∃ x, x = w1.drew := ⟨_, rfl⟩
    have B1d : Hid (Below w1.heap.size w1 wd) := by rw [Hid, hwd]; exact zam w1
    rw [← hwd] at hHeld ⊢
    clear hwd
    refine sT 0 16 ?_
    refine sT 1 17 ?_
    refine sT 2 18 ?_
    refine sT 3 19 ?_
    refine wpAnyH_ready (rs := [4, 7]) kr (by simp) ?_
    refine AllReadyH.cons rfl (fun K hK => ?_) (AllReadyH.cons rfl (fun K hK => ?_) AllReadyH.nil)
    · go_simp
      obtain ⟨w2, hw2, hb2, r2, hz2⟩ := zao wd zs 3
      rw [hw2]
      refine hK.out _ _ (HS.out _ (zaa B1d.out bel)) (fun hHeld => ?_)
      clear hK K hw2
      refine sP ?_
      refine sT 5 21 ?_
      refine sT 6 22 ?_
      refine wpAnyH_ready (rs := [7]) kr (by simp) ?_
      refine AllReadyH.cons rfl (fun K hK => ?_) AllReadyH.nil
      go_simp
      obtain ⟨w3, hw3, hb3, r3, hz3⟩ := zao w2 #[.slice none 0 0, .slice none 0 0, .slice none 0 0, .int .i64 0, .slice none 0 0] 137
      rw [hw3]
      refine hK.out _ _ (HS.out _ (zaa B1d.out bel)) (fun hHeld => ?_)
      clear hK K hw3
      refine sP ?_
      have R2 := Lib.hid (r2.next hb3)
      have R3 := Lib.hid r3
      have B3 := Lib.hid (zaa B1d.out (zaa hb2 hb3))
      have ZZ : Hid (w2.heap.size ≠ wd.heap.size ∧ w1.heap.size ≤ w2.heap.size ∧ w1.heap.size ≤ wd.heap.size ∧ w.heap.size ≠ w2.heap.size) := by
        have z1 := hz2.out
        have z2 := B1d.out.size
        have z3 := HB1.out.size
        have z4 := Hz.out
        have z5 := RX1.out.lt
        refine ⟨by omega, by omega, z2, by omega⟩
      clear r2 r3 hb2 hb3 hz2 hz3
      obtain ⟨a0, a1, a2, a3, a4⟩ := row5 R3.out
      obtain ⟨f0, f1, f2, f3, f4⟩ := fre5 R3.out
      refine wpAnyH_ready (rs := [8]) kr (by simp) ?_
      refine AllReadyH.cons rfl (fun K hK => ?_) AllReadyH.nil
      go_simp
      have HP := hp5 HS (nA ZZ.out.2.2.2 (nZ ZZ.out.2.2.2))
      refine hK.out _ _ (HP.out _ B3.out _ _ _ _ _) (fun hHeld => ?_)
      clear hK K
      refine sP ?_
      refine wpAnyH_done kr ?_ _
      refine NoPanic.normal ?_
      go_wp2_with fail
      go_meet
      exact ⟨_, _, rfl, ⟨ZZ.out.1, ZZ.out.2.1, ZZ.out.2.2.1⟩, zbs B3.out ZZ.out.2.1 _ _ _ _ _, (by have h1 := R2.out; rw [HZS.out] at h1; exact h1.far5 (Ne.symm ZZ.out.1) _ _ _ _ _), R3.out.pt5 _ _ _ _ _⟩
    · go_simp
      obtain ⟨w2, hw2, hb2, r2, hz2⟩ := zao wd #[.slice none 0 0, .slice none 0 0, .slice none 0 0, .int .i64 0, .slice none 0 0] 137
      rw [hw2]
      refine hK.out _ _ (HS.out _ (zaa B1d.out bel)) (fun hHeld => ?_)
      clear hK K hw2
      refine sP ?_
      refine wpAnyH_ready (rs := [4]) kr (by simp) ?_
      refine AllReadyH.cons rfl (fun K hK => ?_) AllReadyH.nil
      go_simp
      obtain ⟨w3, hw3, hb3, r3, hz3⟩ := zao w2 zs 3
      rw [hw3]
      refine hK.out _ _ (HS.out _ (zaa B1d.out bel)) (fun hHeld => ?_)
      clear hK K hw3
      refine sP ?_
      refine sT 5 21 ?_
      refine sT 6 22 ?_
      have R2 := Lib.hid r3
      have R3 := Lib.hid (r2.next hb3)
      have B3 := Lib.hid (zaa B1d.out (zaa hb2 hb3))
      have ZZ : Hid (wd.heap.size ≠ w2.heap.size ∧ w1.heap.size ≤ wd.heap.size ∧ w1.heap.size ≤ w2.heap.size ∧ w.heap.size ≠ wd.heap.size) := by
        have z1 := hz2.out
        have z2 := B1d.out.size
        have z3 := HB1.out.size
        have z4 := Hz.out
        have z5 := RX1.out.lt
        refine ⟨by omega, z2, by omega, by omega⟩
      clear r2 r3 hb2 hb3 hz2 hz3
      obtain ⟨a0, a1, a2, a3, a4⟩ := row5 R3.out
      obtain ⟨f0, f1, f2, f3, f4⟩ := fre5 R3.out
      refine wpAnyH_ready (rs := [8]) kr (by simp) ?_
      refine AllReadyH.cons rfl (fun K hK => ?_) AllReadyH.nil
      go_simp
      have HP := hp5 HS (nA ZZ.out.2.2.2 (nZ ZZ.out.2.2.2))
      refine hK.out _ _ (HP.out _ B3.out _ _ _ _ _) (fun hHeld => ?_)
      clear hK K
      refine sP ?_
      refine wpAnyH_done kr ?_ _
      refine NoPanic.normal ?_
      go_wp2_with fail
      go_meet
      exact ⟨_, _, rfl, ⟨ZZ.out.1, ZZ.out.2.1, ZZ.out.2.2.1⟩, zbs B3.out ZZ.out.2.1 _ _ _ _ _, (by have h1 := R2.out; rw [HZS.out] at h1; exact h1.far5 (Ne.symm ZZ.out.1) _ _ _ _ _), R3.out.pt5 _ _ _ _ _⟩
  case rest =>
    obtain ⟨F, G, rfl, HFG, HBc, HGr, HFr⟩ := hcut
    have HFs := Lib.hid (HFG.out.2.1)
    have RXc := Lib.hid (RX1.out.next HBc.out)
    have HBw := Lib.hid (zaa HB1.out HBc.out)
    obtain ⟨y0, y1⟩ := row2 RXc.out
    clear hmk HS HZS x0 x1
    go_wp2_with fail
    go_loopw [6, 7] (fun su i wr => ∃ (k s P : Nat) (L : List Nat), k ≤ sz.length ∧ i = .int .i64 ((k : Int) - 1) ∧ su = .int .i64 (s : Int) ∧ s ≤ 36 ∧ 1 ≤ P ∧ P ≤ 36 ∧ Row wr G 3 (cel .i64 L) ∧
      Row wr F 137 [.slice A sz.length c, .slice B ps.length d, .slice (some ⟨G, 0, none⟩) sz.length sz.length, .int .i64 (P : Int), .slice none 0 0] ∧ Below w1.heap.size w1 wr ∧
      Hid (s = (sz.drop k).sum ∧ P = prd (sz.drop k) ∧ L.length = sz.length ∧ ∀ j, k ≤ j → j < sz.length → L.getD j 0 = prd (sz.drop (j + 1)))) (fun _ i _ => (intOf i + 1).toNat)
    case atStart =>
      exact ⟨sz.length, 0, 1, _, Nat.le_refl _, by go_num, rfl, by omega, by omega, by omega, HGr.out, HFr.out, HBc.out, by rw [List.drop_length]; rfl, by rw [List.drop_length]; rfl, by simp, fun j h1 h2 => by omega⟩
    case round =>
      clear y0 y1
      obtain ⟨k, s, P, L, hk, rfl, rfl, hs, hP0, hP1, hG, hF, hb, hr⟩ := hrel
      have RX2 := RX1.out.next hb
      obtain ⟨y0, y1⟩ := row2 RX2
      obtain ⟨a0, a1, a2, a3, a4⟩ := row5 hF
      obtain ⟨f0, f1, f2, f3, f4⟩ := fre5 hF
      rcases k with _ | k
      · have HG := Lib.hid hG
        have HF := Lib.hid hF
        have HBr := Lib.hid hb
        have HL : Hid (L = stp sz ∧ P = prd sz) := ⟨stp_of hr.out.2.2.1 fun j hj => hr.out.2.2.2 j (Nat.zero_le _) hj, hr.out.2.1⟩
        have hP36 : ¬ (P : Int) > 36 := by omega
        have hs36 : ¬ (s : Int) > 36 := by omega
        clear hG hF hb
        go_wp2_with fail
        go_loopw [69] (fun i wi => ∃ (k : Nat) (u : Value) (es : List Value), k ≤ ps.length ∧ i = .int .i64 (k : Int) ∧ Row wi G 3 (cel .i64 L) ∧
          Row wi F 137 [.slice A sz.length c, .slice B ps.length d, .slice (some ⟨G, 0, none⟩) sz.length sz.length, .int .i64 (P : Int), u] ∧ Below w1.heap.size w1 wi ∧ Hid (Own wi w1.heap.size 146 u es ∧ All2 (IsFs wi) es (ps.take k))) (fun i _ => ps.length - (intOf i).toNat)
        case atStart => exact ⟨0, _, [], Nat.zero_le _, rfl, HG.out, HF.out, HBr.out, Own.nil _ _ _, by rw [List.take_zero]; exact All2.nil⟩
        case round =>
          clear a0 a1 a2 a3 a4 f0 f1 f2 f3 f4 y0 y1 hP36 hs36
          obtain ⟨k, u, es, hk, rfl, hG, hF, hb, hr⟩ := hrel
          obtain ⟨U, cU, hu, _⟩ := hr.out.1.sl
          rw [hr.out.2.1, List.length_take, Nat.min_eq_left hk] at hu
          subst hu
          have HG2 := Lib.hid hG
          have HF2 := Lib.hid hF
          have HB2 := Lib.hid hb
          have RX2 := Lib.hid (RX1.out.next hb)
          obtain ⟨y0, y1⟩ := row2 RX2.out
          obtain ⟨a0, a1, a2, a3, a4⟩ := row5 hF
          obtain ⟨f0, f1, f2, f3, f4⟩ := fre5 hF
          clear hG hF hb
          rcases Nat.lt_or_ge k ps.length with hlt | hge
          · have hx := List.getElem?_eq_getElem hlt
            obtain ⟨r, hre⟩ : ∃ r, r = ps[k] := ⟨_, rfl⟩
            rw [← hre] at hx
            have HX := Lib.hid hx
            have hmem : r ∈ ps := List.mem_of_getElem? hx
            obtain ⟨b1, o1, A1, c1, rfl, _, hiv, hcell⟩ := isM_get (IsM.stb.next H2.out (zaa HB1.out HB2.out)) (j := k) (l := r.map raw) (by unfold rawT; rw [List.getElem?_map, hx]; rfl)
            have HV := Lib.hid hiv
            rw [List.length_map] at hcell HV
            have hrl : Hid (r.length ≤ 100000) := by rw [Hid, OK.out.row _ hmem]; exact Nat.le_trans OK.out.prod (by omega)
            have Hnum := Lib.hid (OK.out.num _ hmem)
            have HO := Lib.hid hr.out.1
            have HA := Lib.hid hr.out.2
            have hel : Hid (es.length = k) := by rw [Hid, hr.out.2.1, List.length_take, Nat.min_eq_left hk]
            have HS := Lib.hid fun (W : World) (hW : Below w1.heap.size w1 W) => (row2 (RX1.out.next hW)).1
            have HC := hs1 a4
            have n1 : w.heap.size ≠ F := by have z1 := HFG.out.2.1; have z2 := HB1.out.size; have z3 := RX1.out.lt; omega
            have HN1 := Lib.hid n1
            clear hiv hre hx hmem hr y0 y1 a0 a1 a2 a3 a4 f0 f1 f2 f3 f4 n1
            go_wp2_with fail
            clear hcell
            refine wp_region_noPanic ?_
            refine zck [7] (fun W => W.cell? ⟨w.heap.size, 0, none⟩ = some (.slice A sz.length c)) (fun W => W.cell? ⟨F, 4, none⟩ = some (.slice U k cU)) kr (HS.out _ (zaa HB2.out bel)) (HC.out _ bel) (fun hHeld hC2 => ?_)
            refine pB 0 73 ?_
            refine pA 1 74 ?_
            refine pB 2 75 ?_
            refine oneA (i := 3) kr rfl rfl fun K hK => ?_
            go_simp
            go_at_call 166
            (with_reducible refine Calls.mono (list_f (IsV.stb.next HV.out (zam wr)) hrl.out Hnum.out) ?_)
            rintro e w3 ⟨⟨v3, rfl, hv3⟩, hb3⟩
            have V3 := Lib.hid hv3
            obtain ⟨A3, c3, rfl, _⟩ := hv3.hd
            have HB3 := Lib.hid (show Below wr.heap.size wr w3 from bel)
            (focus go_wp2_with fail)
            refine hK.out _ _ (HS.out _ (zaa HB2.out HB3.out)) (HC.out _ HB3.out) fun hHeld hC2 => ?_
            clear hK K hv3
            refine sP ?_
            refine oneA (i := 4) kr rfl rfl fun K hK => ?_
            go_simp
            refine hK.out _ _ (HS.out _ (zaa HB2.out (zaa HB3.out (zaq _ _)))) (HC.out _ (zaa HB3.out (zaq _ _))) fun hHeld hC2 => ?_
            clear hK K
            refine sP ?_
            have HO3 := Lib.hid (HO.out.below HB3.out)
            have HA3 := Lib.hid (HA.out.imp fun _ _ h => h.next HB3.out)
            have HF3 := Lib.hid (HF2.out.next HB3.out)
            have HG3 := Lib.hid (HG2.out.next HB3.out)
            have HB4 := Lib.hid (zaa HB2.out (zaa HB3.out (zaq w3 (.cells #[.slice A3 r.length c3] 146))))
            refine oneA (i := 5) kr rfl rfl fun K hK => ?_
            refine step_own elFM (.tmp 74) (.tmp 77) rfl (by simp [Act.eval]) HO3.out (by simp [Act.eval]) rfl (by have := hel.out; omega) (Nat.le_trans HB2.out.size HB3.out.size) ?_
            intro v5 w5 hown5 hg5
            have HO5 := Lib.hid hown5
            have HB5 := Lib.hid (HB4.out.grown hg5 HB4.out.size (fun k e => (World.ownsRow.lt HO3.out k e).1))
            have HF5 : Hid (Row w5 F 137 [.slice A sz.length c, .slice (some ⟨b1, o1, none⟩) ps.length d, .slice (some ⟨G, 0, none⟩) sz.length sz.length, .int .i64 (P : Int), .slice U k cU]) := Row.grown (HF3.out.alloc _) hg5 (own_ne HO3.out HF3.out fm_ne.2.2.2.2.2.2.1)
            have HG5 : Hid (Row w5 G 3 (cel .i64 L)) := Row.grown (HG3.out.alloc _) hg5 (own_ne HO3.out HG3.out fm_ne.2.2.2.2.2.2.2)
            have HK5 : Hid (KF w3 w5) := (KF.of (zaq w3 _)).trans (kf_own (HO3.out.alloc _) hg5 fm_ne.1 fm_ne.2.1 fm_ne.2.2.1)
            have hl5 : (es ++ [Value.slice A3 r.length c3]).length = k + 1 := by rw [List.length_append, hel.out]; rfl
            obtain ⟨U5, c5, hv5, _⟩ := hown5.sl
            rw [hl5] at hv5
            subst hv5
            clear hown5 hg5 hl5
            refine hK.out _ _ (HS.out _ HB5.out) (row5 HF5.out).2.2.2.2 fun hHeld hC2 => ?_
            clear hK K
            refine sP ?_
            refine pB 6 79 ?_
            have q4 := (row5 HF5.out).2.2.2.2
            have g4 := (fre5 HF5.out).2.2.2.2
            refine oneT (i := 7) kr rfl rfl rfl rfl fun K hK => ?_
            go_simp
            refine hK.out _ _ (HS.out _ (HB5.out.setCell (p := ⟨F, 4, none⟩) HFs.out _)) fun hHeld => ?_
            clear hK K q4 g4
            refine sP ?_
            refine zfs kr ?_ _
            refine NoPanic.normal ?_
            obtain ⟨W2, hW2⟩ : ∃ W, W = w5.setCell ⟨F, 4, none⟩ (.slice U5 (k + 1) c5) := ⟨_, rfl⟩
            have HK6 : Hid (KF w5 W2) := by rw [hW2]; exact KF.set HF5.out fm_ne.2.2.2.1 fm_ne.2.2.2.2.1 fm_ne.2.2.2.2.2.1 4 _
            have hG2 : Hid (Row W2 G 3 (cel .i64 L)) := by rw [hW2]; exact HG5.out.far (p := ⟨F, 4, none⟩) (Ne.symm HFG.out.1) _
            have hF2 : Hid (Row W2 F 137 [.slice A sz.length c, .slice (some ⟨b1, o1, none⟩) ps.length d, .slice (some ⟨G, 0, none⟩) sz.length sz.length, .int .i64 (P : Int), .slice U5 (k + 1) c5]) := by rw [hW2]; exact HF5.out.set_ 4 _
            have hb2 : Hid (Below w1.heap.size w1 W2) := by rw [hW2]; exact HB5.out.setCell (p := ⟨F, 4, none⟩) HFs.out _
            have hO2 : Hid (Own W2 w1.heap.size 146 (.slice U5 (k + 1) c5) (es ++ [.slice A3 r.length c3])) := by rw [hW2]; exact HO5.out.set HF5.out fm_ne.2.2.2.2.2.2.1 4 _
            clear hHeld
            rw [← hW2]
            clear hW2
            go_wp2_with fail
            go_roundw
            case rel =>
              refine ⟨k + 1, _, _, by omega, by go_num, hG2.out, hF2.out, hb2.out, hO2.out, ?_⟩
              rw [List.take_add_one, HX.out]
              exact (HA3.out.imp fun _ _ h => (h.kf HK5.out).kf HK6.out).snoc ((V3.out.kf HK5.out).kf HK6.out)
            case measure => simp [intOf]; omega
          · obtain rfl : k = ps.length := og
            have RZ2 := Lib.hid (RZ1.out.next HB2.out)
            obtain ⟨z0, z1, z2, z3, z4⟩ := row5 RZ2.out
            obtain ⟨g0, g1, g2, g3, g4⟩ := fre5 RZ2.out
            go_wp2_with fail
            refine ret_form Tryz.results96 rfl rfl rfl (RZ2.out.pt5 _ _ _ _ _) ⟨⟨A, c, _, d, G, U, cU, rfl, ?_⟩, ?_⟩
            · have hBW := zbs (g := w.heap.size + 1) (zaa HB1.out HB2.out) (by omega) (.slice A sz.length c) (.slice B ps.length d) (.slice (some ⟨G, 0, none⟩) sz.length sz.length) (.int .i64 (P : Int)) (.slice U ps.length cU)
              have hk := kf_far (w' := pt5 wr (w.heap.size + 1) (.slice A sz.length c) (.slice B ps.length d) (.slice (some ⟨G, 0, none⟩) sz.length sz.length) (.int .i64 (P : Int)) (.slice U ps.length cU)) (v := .slice U ps.length cU) (ps := ps) RZ2.out (by simp [pt5, World.setCell]) (fun b hb => heap_pt5 _ _ _ _ _ _ _ hb)
              have hall := hr.out.2
              rw [List.take_length] at hall
              have hgz : G ≠ w.heap.size + 1 := by have z1 := HFG.out.2.2; have z2 := HB1.out.size; have z3 := RZ1.out.lt; omega
              have hg2 := HG2.out.far5 hgz (.slice A sz.length c) (.slice B ps.length d) (.slice (some ⟨G, 0, none⟩) sz.length sz.length) (.int .i64 (P : Int)) (.slice U ps.length cU)
              rw [HL.out.1] at hg2
              rw [HL.out.2] at hBW hk hg2 ⊢
              exact ⟨rfl, Nat.le_trans HB1.out.size HFG.out.2.2, hg2, hk.2 (isFM_own hr.out.1 hall)⟩
            · exact zbs (zaa HB1.out HB2.out) (by omega) _ _ _ _ _
      · have hx := List.getElem?_eq_getElem (show k < sz.length from hk)
        obtain ⟨x, hxe⟩ : ∃ x, x = sz[k] := ⟨_, rfl⟩
        rw [← hxe] at hx
        obtain ⟨b, o, rfl, hbl, hcell0⟩ := H1.out.at hx
        have hcell := zac (zaa HB1.out hb) hcell0
        have hklt : k < sz.length := hk
        have hkL : k < L.length := by rw [hr.out.2.2.1]; exact hk
        obtain ⟨z, hz, hz0, hzc⟩ := hG.num (i := k) hkL
        have hzf := hG.frozen k
        have hm : x ∈ sz := List.mem_of_getElem? hx
        have hx1 := OK.out.pos x hm
        have hpd := prd_drop hx
        have hsd := sum_drop hx
        have hpl2 := Nat.le_trans (prd_drop_le OK.out.pos k) OK.out.prod
        have hsl2 := Nat.le_trans (zdr sz k) OK.out.sum
        have hP2 : P * x ≤ 36 := by rw [hr.out.2.1, Nat.mul_comm, ← hpd]; exact hpl2
        have hss : s + x ≤ 36 := by rw [hr.out.1, Nat.add_comm, ← hsd]; exact hsl2
        have hPx : 1 ≤ P * x := Nat.mul_pos (by omega) (by omega)
        obtain ⟨T, hT⟩ : ∃ T, T = P * x := ⟨_, rfl⟩
        have hTi : (P : Int) * (x : Int) = (T : Int) := by rw [hT]; simp
        have hTw : IntKind.i64.wrap ((P : Int) * (x : Int)) = (T : Int) := by rw [hTi]; exact IntWalk.i64_in _ (by rw [← hT] at hP2; omega)
        rw [← hT] at hP2 hPx
        have HNew : Hid (s + x = (sz.drop k).sum ∧ T = prd (sz.drop k) ∧ (L.set k P).length = sz.length ∧ ∀ j, k ≤ j → j < sz.length → (L.set k P).getD j 0 = prd (sz.drop (j + 1))) := by
          refine ⟨by rw [hsd, hr.out.1, Nat.add_comm], by rw [hT, hpd, hr.out.2.1, Nat.mul_comm], by rw [List.length_set]; exact hr.out.2.2.1, fun j h1 h2 => ?_⟩
          rcases Nat.eq_or_lt_of_le h1 with h3 | h3
          · subst h3
            rw [getD_set_eq hkL]; exact hr.out.2.1
          · rw [getD_set_ne (by omega)]
            exact hr.out.2.2.2 j h3 h2
        have hx36 : x ≤ 36 := by omega
        rw [show (((k + 1 : Nat) : Int) - 1) = (k : Int) from by omega]
        obtain ⟨W1, hW1⟩ : ∃ W, wr.setCell ⟨G, k, none⟩ (.int .i64 (P : Int)) = W := ⟨_, rfl⟩
        have n1 : w.heap.size ≠ F := by have z1 := HFG.out.2.1; have z2 := HB1.out.size; have z3 := RX1.out.lt; omega
        have n2 : b ≠ F := by have z1 := HFG.out.2.1; have z2 := HB1.out.size; omega
        have n3 : b ≠ G := by have z1 := HFG.out.2.2; have z2 := HB1.out.size; omega
        have n4 : w.heap.size ≠ G := by have z1 := HFG.out.2.2; have z2 := HB1.out.size; have z3 := RX1.out.lt; omega
        have hG1 := Lib.hid (hG.setNum k P (P : Int) rfl)
        have hF1 := Lib.hid (hF.far (p := ⟨G, k, none⟩) HFG.out.1 (.int .i64 (P : Int)))
        have hX1 := Lib.hid (RX2.far (p := ⟨G, k, none⟩) n4 (.int .i64 (P : Int)))
        have hc1 := (World.cell?_setCell_other wr ⟨G, k, none⟩ ⟨b, o + k, none⟩ (.int .i64 (P : Int)) (fun e => n3 (congrArg Addr.block e).symm)).trans hcell
        have hb1' := Lib.hid (hb.setCell (p := ⟨G, k, none⟩) HFG.out.2.2 (.int .i64 (P : Int)))
        rw [hW1] at hG1 hF1 hX1 hc1 hb1'
        have q0 := (row2 hX1.out).1
        obtain ⟨_, _, _, q3, _⟩ := row5 hF1.out
        obtain ⟨_, _, _, g3, _⟩ := fre5 hF1.out
        have HS := hs2 q0 hc1
        have HC := hs1 q3
        have HP := hpC HS (nA n1 (nZ n2))
        have HG3 := Lib.hid g3
        have HN1 := Lib.hid (And.intro n1 (And.intro n2 (And.intro n3 n4)))
        clear hx hxe hm hpd hsd hpl2 hsl2 hT hTi hbl hcell0 n1 n2 n3 n4 q0 q3 g3 hc1
        go_wp2_with fail
        clear hG hF hb RX2 y0 y1 a0 a1 a2 a3 a4 f0 f1 f2 f3 f4 hcell hzc hzf
        clear hW1
        refine wp_region_noPanic ?_
        refine zck [11] (SH.mk _ HS).s (SH.mk _ HC).s kr (HS.out _ bel) (HC.out _ bel) (fun hHeld hC2 => ?_)
        refine pB 0 39 ?_
        refine pB 1 40 ?_
        refine pA 2 41 ?_
        refine pB 3 42 ?_
        refine pB 4 43 ?_
        refine pB 5 44 ?_
        refine pB 6 45 ?_
        refine pB 7 46 ?_
        refine pB 8 47 ?_
        refine pB 9 48 ?_
        refine pB 10 49 ?_
        have q3 := HC.out _ (zam W1)
        have g3 : W1.drew.frozen? ⟨F, 3, none⟩ = false := HG3.out
        refine oneT (i := 11) kr rfl rfl rfl rfl fun K hK => ?_
        go_simp
        refine hK.out _ _ (HP.out _ (Below.refl _ W1) 3 _) fun hHeld => ?_
        clear hK K q3 g3
        refine sP ?_
        refine zfs kr ?_ _
        refine NoPanic.normal ?_
        obtain ⟨W2, hW2⟩ : ∃ W, W = (W1.setCell ⟨F, 3, none⟩ (.int .i64 (T : Int))).drew := ⟨_, rfl⟩
        have hG2 : Hid (Row W2 G 3 (cel .i64 (L.set k P))) := by rw [hW2]; exact (hG1.out.far (p := ⟨F, 3, none⟩) (Ne.symm HFG.out.1) _).drew
        have hF2 : Hid (Row W2 F 137 [.slice (some ⟨b, o, none⟩) sz.length c, .slice B ps.length d, .slice (some ⟨G, 0, none⟩) sz.length sz.length, .int .i64 (T : Int), .slice none 0 0]) := by rw [hW2]; exact (hF1.out.set_ 3 (.int .i64 (T : Int))).drew
        have hb2 : Hid (Below w1.heap.size w1 W2) := by rw [hW2]; exact below_drewN (hb1'.out.setCell (p := ⟨F, 3, none⟩) HFs.out _) 1
        have hX2 : Hid (Row W2 w.heap.size 64 [.slice (some ⟨b, o, none⟩) sz.length c, .slice B ps.length d]) := by rw [hW2]; exact (hX1.out.far (p := ⟨F, 3, none⟩) HN1.out.1 _).drew
        rw [← hW2] at hHeld ⊢
        clear hW2
        have q0 := hHeld.1
        have q1 := hHeld.2
        clear HP hG1 hF1 hX1 hb1'
        go_wp2_with fail
        go_roundw
        case rel => exact ⟨k, s + x, T, L.set k P, by omega, by go_num, by go_num, hss, hPx, hP2, hG2.out, hF2.out, hb2.out, HNew.out⟩
        case measure => simp [intOf]
theorem isV_row {w : World} {g : Nat} {es : List Value} {l : List Rat} {t : TypeId} (h : RowE w g t es) (ha : All2 (fun e q => IsQ w (Tu w) e q) es l) (hl : l.length ≤ maxLen) : IsV w (Old w) (.slice (some ⟨g, 0, none⟩) l.length l.length) (l.map raw) := by
  refine ⟨some ⟨g, 0, none⟩, l.length, es, by rw [List.length_map], by rw [List.length_map]; exact Nat.le_refl _, hl, fun _ => ⟨g, 0, rfl, h.1.lt, fun j v hv => by rw [Nat.zero_add, h.1.cell]; exact hv⟩, h.2, by rw [List.length_map]; exact ha.1, fun j x y hx hy => ?_⟩
  rw [List.getElem?_map] at hy
  cases hq : l[j]? with
  | none => rw [hq] at hy; cases hy
  | some q =>
    rw [hq] at hy
    cases hy
    exact IsR.stb.to (ha.2 j x q hx hq) (zav tu_lt)
def RetVs (w : World) (l : List Rat) (e : Ending) (w' : World) : Prop := (∃ v, e = .returned (.tuple #[v, .bool true]) ∧ IsV w' (Old w') v (l.map raw)) ∧ Below w.heap.size w w'
set_option maxRecDepth 100000 in
set_option maxHeartbeats 2000000 in
theorem rats_f {w : World} {v : Value} {l : List Rat} (h : IsFs w v l) (hl : l.length ≤ 100000) (hq : ∀ q ∈ l, L1Q q) : Calls Tryz.prog 99 #[v] w (RetVs w l) := by
  have HV := Lib.hid h
  have HL := Lib.hid hq
  obtain ⟨A, c, rfl, _⟩ := h.hd
  clear hq h
  go_enter Tryz.func99, Tryz.ntmps99
  go_wp2_with (at_make; refine wp_make3 elRr rfl _ _ rfl l.length rfl rfl rfl rfl og ?_; intro w1 hrow hb1 hz1)
  obtain ⟨G, hG⟩ : ∃ G, G = w.heap.size := ⟨_, rfl⟩
  rw [← hG] at hrow
  rw [← hG]
  have HG := Lib.hid hG
  clear hG
  go_loopw [14] (fun i wr => ∃ (k : Nat) (fs : List Value), k ≤ l.length ∧ i = .int .i64 (k : Int) ∧ RowE wr G 30 fs ∧ Below w.heap.size w wr ∧ Hid (Fil (fun e q => IsQ wr (Tu wr) e q) fs l k)) (fun i _ => l.length - (intOf i).toNat)
  case atStart => exact ⟨0, _, Nat.zero_le _, rfl, hrow, hb1, Fil.zero (by simp)⟩
  case round =>
    clear hrow hb1 hz1
    obtain ⟨k, fs, hk, rfl, hr, hbw, hf⟩ := hrel
    have HR := Lib.hid hr
    have HBW := Lib.hid hbw
    rcases Nat.lt_or_ge k l.length with hlt | hge
    · obtain ⟨q, hq⟩ : ∃ q, l[k]? = some q := ⟨_, List.getElem?_eq_getElem hlt⟩
      have HQ := Lib.hid hq
      obtain ⟨b, off, x0, y0, z0, rfl, hbS, hre, c0, c1, c2⟩ := (HV.out.next hbw).get hq
      have HE := Lib.hid hre
      obtain ⟨P, m, k1, S, n, d, hv, _, _⟩ := hre
      obtain ⟨rfl, rfl, rfl⟩ : x0 = .bool (decide (q.num < 0)) ∧ y0 = .slice P m k1 ∧ z0 = .slice S n d := by
        simp only [Value.agg.injEq] at hv
        injection hv with hv
        simp only [List.cons.injEq, and_true] at hv
        exact hv
      rw [← Nat.add_assoc] at c1 c2
      obtain ⟨s, hs⟩ : ∃ s, s = decide (q.num < 0) := ⟨_, rfl⟩
      rw [← hs] at c0 HE
      obtain ⟨w2, hw2, hb2, rB, Hz2⟩ := zao wr #[.bool s, .slice P m k1, .slice S n d] 150
      have HB2 := Lib.hid hb2
      obtain ⟨b0, b1, b2⟩ := zab rB
      clear hs hv hq hr hbw hb2 rB
      go_wp2_with fail
      clear hw2
      refine (rat_f (HE.out.next HB2.out) (HL.out q (List.mem_of_getElem? HQ.out))).mono ?_
      rintro e w3 ⟨⟨v3, rfl, hv3⟩, hb3⟩
      have V3 := Lib.hid hv3
      obtain ⟨neg, A4, c4, B4, d4, rfl, _, _, _⟩ := zar (IsQ.stb.to hv3 (zav tu_lt))
      have HB3 := Lib.hid (zaa HB2.out hb3)
      obtain ⟨w4, hw4, hb4, rC, Hz4⟩ := zao w3 #[.bool neg, .slice A4 (lim q.num.natAbs).length c4, .slice B4 (lim q.den).length d4] 30
      obtain ⟨g0, g1, g2⟩ := zab rC
      have HB4 := Lib.hid hb4
      have HB5 := Lib.hid (zaa HB3.out hb4)
      have HR3 := Lib.hid (HR.out.next HB5.out)
      have hkf : k < fs.length := by rw [hf.out.1]; exact hlt
      obtain ⟨x, y, z, d0, d1, d2⟩ := HR3.out.any hkf
      obtain ⟨f0, f1, f2⟩ := HR3.out.free k
      have HK := Lib.hid hkf
      clear hkf hb3 hv3 hb4 rC
      go_wp2_with fail
      go_roundw
      case rel =>
        exact ⟨k + 1, _, by omega, by go_num, HR3.out.put HK.out _ _ _, zez (zaa HBW.out HB5.out) (by have := HG.out; omega) _ _ _,
          Fil.set (hf.out.imp fun e q h => IsQ.stb.to h ((KT.of HB5.out).trans (HR3.out.kt rat_ne.1 rat_ne.2.1 k _ _ _)).same) HQ.out (IsQ.stb.to V3.out ((KT.of HB4.out).trans (HR3.out.kt rat_ne.1 rat_ne.2.1 k _ _ _)).same)⟩
      case measure => simp [intOf]; omega
    · obtain rfl : k = l.length := og
      go_wp2_with fail
      go_ret2
      exact ⟨⟨_, rfl, isV_row HR.out (hf.out.all (Nat.le_refl _)) (by unfold maxLen; omega)⟩, HBW.out⟩
def tot (l : List Rat) (k : Nat) : Rat := (l.take k).foldl (· + ·) 0
theorem zfm {l : List Rat} {k : Nat} {q : Rat} (h : l[k]? = some q) : tot l (k + 1) = tot l k + q := by
  have hk : k < l.length := (List.getElem?_eq_some_iff.1 h).1
  have he : l[k] = q := (List.getElem?_eq_some_iff.1 h).2
  unfold tot
  rw [List.take_succ_eq_append_getElem hk, List.foldl_append, he]
  rfl
theorem frac3 {w : World} {x y z : Value} {q : Rat} (h : IsF w (.agg #[x, y, z]) q) : ∃ s A m c B n d, x = .bool s ∧ y = .slice A m c ∧ z = .slice B n d := by
  obtain ⟨A, m, c, B, n, d, hv, _, _⟩ := h
  simp only [Value.agg.injEq] at hv
  injection hv with hv
  simp only [List.cons.injEq, and_true] at hv
  obtain ⟨rfl, rfl, rfl⟩ := hv
  exact ⟨_, A, m, c, B, n, d, rfl, rfl, rfl⟩
set_option maxRecDepth 100000 in
set_option maxHeartbeats 2000000 in
theorem total_f {w : World} {v : Value} {l : List Rat} (h : IsFs w v l) (hq : ∀ q ∈ l, Fz q) (hs : ∀ k, k ≤ l.length → Fz (tot l k)) : Calls Tryz.prog 210 #[v] w (RetF w (tot l l.length)) := by
  have HV := Lib.hid h
  have HL := Lib.hid hq
  have HS := Lib.hid hs
  obtain ⟨A, c, rfl, hmx⟩ := h.hd
  unfold maxLen at hmx
  obtain ⟨w0, hw0, hb0, rZ, rS, Hz⟩ := zbj w #[.bool false, .slice none 0 0, .slice none 0 0] #[.bool false, .slice none 0 0, .slice none 0 0] 150 150
  have HB0 := Lib.hid hb0
  have HZ := Lib.hid rZ
  have HS0 := Lib.hid rS
  clear hq h hs hb0 rZ rS
  go_enter Tryz.func210, Tryz.ntmps210
  go_wp2_with fail
  clear hw0
  go_loopw [8] (fun i wr => ∃ (k : Nat) (x y z : Value), k ≤ l.length ∧ i = .int .i64 (k : Int) ∧ Row wr w.heap.size 150 [.bool false, .slice none 0 0, .slice none 0 0] ∧ Row wr (w.heap.size + 1) 150 [x, y, z] ∧ Below w.heap.size w wr ∧ Hid (IsF wr (.agg #[x, y, z]) (tot l k))) (fun i _ => l.length - (intOf i).toNat)
  case atStart => exact ⟨0, _, _, _, Nat.zero_le _, rfl, HZ.out, HS0.out, HB0.out, zcw⟩
  case round =>
    obtain ⟨k, x, y, z, hk, rfl, hz, hr, hbw, hf⟩ := hrel
    have HR := Lib.hid hr
    have HZ2 := Lib.hid hz
    have HBW := Lib.hid hbw
    obtain ⟨sx, xA, xm, xc, xB, xn, xd, rfl, rfl, rfl⟩ := frac3 hf.out
    rcases Nat.lt_or_ge k l.length with hlt | hge
    · obtain ⟨q, hq⟩ : ∃ q, l[k]? = some q := ⟨_, List.getElem?_eq_getElem hlt⟩
      have HQ := Lib.hid hq
      obtain ⟨b, off, x0, y0, z0, rfl, hbS, hre, c0, c1, c2⟩ := (HV.out.next hbw).get hq
      have HE := Lib.hid hre
      obtain ⟨s, P, m, k1, S, n, d, rfl, rfl, rfl⟩ := frac3 hre
      rw [← Nat.add_assoc] at c1 c2
      obtain ⟨w2, hw2, hb2, rB, Hz2⟩ := zao wr #[.bool s, .slice P m k1, .slice S n d] 150
      have HB2 := Lib.hid hb2
      obtain ⟨b0, b1, b2⟩ := zab rB
      obtain ⟨a0, a1, a2⟩ := zab (HR.out.next HB2.out)
      clear hq hr hbw hb2 rB hz hre
      go_wp2_with fail
      clear hw2
      refine (add_f (hf.out.next HB2.out) (HE.out.next HB2.out) (HS.out k hk) (HL.out q (List.mem_of_getElem? HQ.out)) (zfm HQ.out)).mono ?_
      rintro e w3 ⟨⟨v3, rfl, hv3⟩, hb3⟩
      have V3 := Lib.hid hv3
      obtain ⟨A4, m4, c4, B4, n4, d4, rfl, _, _⟩ := hv3
      have HB3 := Lib.hid (zaa HB2.out hb3)
      have HR3 := Lib.hid (HR.out.next HB3.out)
      have HZ3 := Lib.hid (HZ2.out.next HB3.out)
      obtain ⟨d0, d1, d2⟩ := zab HR3.out
      obtain ⟨f0, f1, f2⟩ := zan HR3.out
      clear hb3
      go_wp2_with fail
      go_roundw
      case rel =>
        exact ⟨k + 1, _, _, _, by omega, by go_num, HZ3.out.far3 (by omega) _ _ _, HR3.out.put3 _ _ _, zad (zaa HBW.out HB3.out) (by omega) _ _ _, V3.out.ku (ku_put3 HR3.out _ _ _)⟩
      case measure => simp [intOf]; omega
    · obtain rfl : k = l.length := og
      obtain ⟨a0, a1, a2⟩ := zab hr
      obtain ⟨d0, d1, d2⟩ := zab hz
      obtain ⟨f0, f1, f2⟩ := zan hz
      clear hr hz hbw
      go_wp2_with fail
      exact zau Tryz.results210 rfl rfl (HZ2.out.put3 _ _ _) (retF HZ2.out hf.out HBW.out (Nat.le_refl _))
def mulL (a b : List Rat) : List Rat := (List.range a.length).map fun i => a.getD i 0 * b.getD i 0
theorem mulL_len (a b : List Rat) : (mulL a b).length = a.length := by simp [mulL]
theorem mulL_at {a b : List Rat} {i : Nat} {x y : Rat} (h : a[i]? = some x) (h2 : b[i]? = some y) : (mulL a b)[i]? = some (x * y) := by
  have hi : i < a.length := (List.getElem?_eq_some_iff.1 h).1
  unfold mulL
  rw [List.getElem?_map, List.getElem?_range hi, Option.map_some, List.getD_eq_getElem?_getD, List.getD_eq_getElem?_getD, h, h2]
  rfl
set_option maxRecDepth 100000 in
set_option maxHeartbeats 2000000 in
theorem inner_f {w : World} {va vb : Value} {a b : List Rat} (ha : IsFs w va a) (hb : IsFs w vb b) (hl : a.length = b.length) (fa : ∀ q ∈ a, Fz q) (fb : ∀ q ∈ b, Fz q) (fm : ∀ q ∈ mulL a b, Fz q) (hs : ∀ k, k ≤ a.length → Fz (tot (mulL a b) k)) :
    Calls Tryz.prog 176 #[va, vb] w (RetF w (tot (mulL a b) a.length)) := by
  have HA := Lib.hid ha
  have HBv := Lib.hid hb
  have FA := Lib.hid fa
  have FB := Lib.hid fb
  have FM := Lib.hid fm
  have HSm := Lib.hid hs
  have HL := Lib.hid hl
  obtain ⟨A, c, rfl, hmx⟩ := ha.hd
  obtain ⟨B, d, rfl, _⟩ := hb.hd
  unfold maxLen at hmx
  obtain ⟨w0, hw0, hb0, rZ, rS, Hz⟩ := zbj w #[.bool false, .slice none 0 0, .slice none 0 0] #[.bool false, .slice none 0 0, .slice none 0 0] 150 150
  have HB0 := Lib.hid hb0
  have HZ := Lib.hid rZ
  have HS0 := Lib.hid rS
  clear ha hb fa fb fm hs hb0 rZ rS hl
  go_enter Tryz.func176, Tryz.ntmps176
  go_wp2_with fail
  clear hw0
  go_loopw [10] (fun i wr => ∃ (k : Nat) (x y z : Value), k ≤ a.length ∧ i = .int .i64 (k : Int) ∧ Row wr w.heap.size 150 [.bool false, .slice none 0 0, .slice none 0 0] ∧ Row wr (w.heap.size + 1) 150 [x, y, z] ∧ Below w.heap.size w wr ∧ Hid (IsF wr (.agg #[x, y, z]) (tot (mulL a b) k))) (fun i _ => a.length - (intOf i).toNat)
  case atStart => exact ⟨0, _, _, _, Nat.zero_le _, rfl, HZ.out, HS0.out, HB0.out, zcw⟩
  case round =>
    obtain ⟨k, x, y, z, hk, rfl, hz, hr, hbw, hf⟩ := hrel
    have HR := Lib.hid hr
    have HZ2 := Lib.hid hz
    have HBW := Lib.hid hbw
    obtain ⟨sx, xA, xm, xc, xB, xn, xd, rfl, rfl, rfl⟩ := frac3 hf.out
    rcases Nat.lt_or_ge k a.length with hlt | hge
    · have hlb : k < b.length := by rw [← HL.out]; exact hlt
      obtain ⟨q, hq⟩ : ∃ q, a[k]? = some q := ⟨_, List.getElem?_eq_getElem hlt⟩
      obtain ⟨p, hp⟩ : ∃ p, b[k]? = some p := ⟨_, List.getElem?_eq_getElem hlb⟩
      have HQ := Lib.hid (And.intro hq hp)
      obtain ⟨b1, o1, x0, y0, z0, rfl, hbS, hre, c0, c1, c2⟩ := (HA.out.next hbw).get hq
      have HE := Lib.hid hre
      obtain ⟨s, P, m, k1, S, n, d1, rfl, rfl, rfl⟩ := frac3 hre
      rw [← Nat.add_assoc] at c1 c2
      obtain ⟨b2, o2, x1, y1, z1, rfl, hbS2, hre2, e0, e1, e2⟩ := HBv.out.get hp
      have HG := Lib.hid hre2
      obtain ⟨t, P2, m2, k2, S2, n2, d2, rfl, rfl, rfl⟩ := frac3 hre2
      rw [← Nat.add_assoc] at e1 e2
      obtain ⟨w2, hw2, hb2, rB, Hz2⟩ := zao wr #[.bool s, .slice P m k1, .slice S n d1] 150
      have HB2 := Lib.hid (zaa hbw hb2)
      have HB3 := Lib.hid hb2
      obtain ⟨b0, b1', b2'⟩ := zab rB
      have RS := Lib.hid (HR.out.next hb2)
      obtain ⟨a0, a1, a2⟩ := zab RS.out
      obtain ⟨f0, f1, f2⟩ := zan RS.out
      have nX : wr.heap.size ≠ w.heap.size + 1 := by have := HR.out.lt; omega
      have nb : b2 ≠ w.heap.size + 1 := by omega
      have HS := hs6 b0 b1' b2' (zac HB2.out e0) (zac HB2.out e1) (zac HB2.out e2)
      have HC := hs3 a0 a1 a2
      have HP := hp3 HS (nA nX (nA nX (nA nX (nA nb (nA nb (nZ nb))))))
      have HZ3 := Lib.hid (HZ2.out.next hb2)
      have HF0 := Lib.hid (And.intro f0 (And.intro f1 f2))
      have hkb : k < b.length := hlb
      clear hq hp hr hbw hb2 rB hz hre hre2 hbS hbS2 e0 e1 e2 nX nb b0 b1' b2' a0 a1 a2 f0 f1 f2
      go_wp2_with fail
      clear hw2
      refine wp_region_noPanic ?_
      refine zck [8] (SH.mk _ HS).s (SH.mk _ HC).s kr (HS.out _ bel) (HC.out _ bel) (fun hHeld hC2 => ?_)
      refine pA 0 15 ?_
      refine pB 1 16 ?_
      refine pB 2 17 ?_
      refine pB 3 18 ?_
      refine pB 4 19 ?_
      refine pB 5 20 ?_
      refine oneA (i := 6) kr rfl rfl fun K hK => ?_
      go_simp
      go_at_call 217
      (with_reducible refine Calls.mono (mul_f (HE.out.next (zaa HB3.out (zam w2))) (HG.out.next (zaa HB2.out (zam w2))) (FA.out q (List.mem_of_getElem? HQ.out.1)) (FB.out p (List.mem_of_getElem? HQ.out.2)) rfl) ?_)
      rintro e w5 ⟨⟨v5, rfl, hv5⟩, hb5⟩
      have V5 := Lib.hid hv5
      obtain ⟨s5, P5, m5, k5, S5, n5, d5, hv6⟩ : ∃ s A m c B n d, v5 = .agg #[.bool s, .slice A m c, .slice B n d] := by
        obtain ⟨A5, m5, c5, B5, n5, d5, h5, _, _⟩ := hv5
        exact ⟨_, _, _, _, _, _, _, h5⟩
      subst hv6
      have B5 := bW w2 w5
      (focus go_wp2_with fail)
      refine hK.out _ _ (HS.out _ bel) (HC.out _ bel) fun hHeld hC2 => ?_
      clear hK K hv5
      refine sP ?_
      refine oneA (i := 7) kr rfl rfl fun K hK => ?_
      go_simp
      go_at_call 216
      (with_reducible refine Calls.mono (add_f (hf.out.next (zaa HB3.out B5.out)) V5.out (HSm.out k hk) (FM.out _ (List.mem_of_getElem? (mulL_at HQ.out.1 HQ.out.2))) (zfm (mulL_at HQ.out.1 HQ.out.2))) ?_)
      rintro e w6 ⟨⟨v6, rfl, hv6⟩, hb6⟩
      have V6 := Lib.hid hv6
      obtain ⟨s6, P6, m6, k6, S6, n6, d6, hv7⟩ : ∃ s A m c B n d, v6 = .agg #[.bool s, .slice A m c, .slice B n d] := by
        obtain ⟨A5, m5, c5, B5, n5, d5, h5, _, _⟩ := hv6
        exact ⟨_, _, _, _, _, _, _, h5⟩
      subst hv7
      have B6 := Lib.hid (zaa B5.out hb6)
      (focus go_wp2_with fail)
      refine hK.out _ _ (HS.out _ B6.out) (HC.out _ B6.out) fun hHeld hC2 => ?_
      clear hK K hv6
      refine sP ?_
      have RS6 := Lib.hid (RS.out.next B6.out)
      obtain ⟨t0, t1, t2⟩ := zab RS6.out
      obtain ⟨t3, t4, t5⟩ := zan RS6.out
      refine oneT (i := 8) kr rfl rfl rfl rfl fun K hK => ?_
      go_simp
      refine hK.out _ _ (HP.out _ B6.out _ _ _) fun hHeld => ?_
      clear hK K t0 t1 t2 t3 t4 t5
      refine sP ?_
      refine zfs kr ?_ _
      refine NoPanic.normal ?_
      go_wp2_with fail
      go_roundw
      case rel =>
        exact ⟨k + 1, _, _, _, by omega, by go_num, (HZ3.out.next B6.out).far3 (by omega) _ _ _, RS6.out.put3 _ _ _, zad (zaa HB2.out B6.out) (by omega) _ _ _, V6.out.ku (ku_put3 RS6.out _ _ _)⟩
      case measure => simp [intOf]; omega
    · obtain rfl : k = a.length := og
      obtain ⟨a0, a1, a2⟩ := zab hr
      obtain ⟨d0, d1, d2⟩ := zab hz
      obtain ⟨f0, f1, f2⟩ := zan hz
      clear hr hz hbw
      go_wp2_with fail
      exact zau Tryz.results176 rfl rfl (HZ2.out.put3 _ _ _) (retF HZ2.out hf.out HBW.out (Nat.le_refl _))
def insN (sz : List Nat) (i p t : Nat) : Int := (i : Int) + ((t : Int) - ((i / prd (sz.drop (p + 1)) % sz.getD p 0 : Nat) : Int)) * (prd (sz.drop (p + 1)) : Nat)
set_option maxRecDepth 100000 in
set_option maxHeartbeats 1000000 in
theorem instead_n {w : World} {A S : Option Addr} {a s : Nat} {x0 : Value} {x3 : Value} {sz : List Nat} (h1 : IsNs w (.slice A sz.length a) sz) (h2 : IsNs w (.slice S sz.length s) (stp sz)) (ok : ∀ x ∈ sz, 1 ≤ x) (hp36 : prd sz ≤ 36) (hs36 : sz.sum ≤ 36) {i p t : Nat} (hi : i < 36) (hp : p < sz.length) (ht : t ≤ 36) {z : Int} (hz : z = insN sz i p t) :
    Calls Tryz.prog 218 #[.agg #[.slice A sz.length a, x0, .slice S sz.length s, x3], .int .i64 (i : Int), .int .i64 (p : Int), .int .i64 (t : Int)] w fun e w' => e = .returned (.int .i64 z) ∧ Below w.heap.size w w' := by
  have hx := List.getElem?_eq_getElem hp
  obtain ⟨x, hxe⟩ : ∃ x, x = sz[p] := ⟨_, rfl⟩
  rw [← hxe] at hx
  obtain ⟨b1, o1, rfl, g1, c1⟩ := h1.at hx
  obtain ⟨b2, o2, rfl, g2, c2⟩ := h2.at (stp_at hp)
  have hx1 : 1 ≤ x := ok x (List.mem_of_getElem? hx)
  have hst1 := prd_drop_pos ok (p + 1)
  have hst2 := Nat.le_trans (prd_drop_le ok (p + 1)) hp36
  obtain ⟨st, hst⟩ : ∃ st, st = prd (sz.drop (p + 1)) := ⟨_, rfl⟩
  have hxd : sz.getD p 0 = x := by rw [List.getD_eq_getElem?_getD, hx]; rfl
  have hx2 : x ≤ 36 := by
    have := Nat.le_trans (zdr sz p) hs36
    rw [sum_drop hx] at this
    omega
  rw [← hst] at hst1 hst2 c2
  obtain ⟨q, hq⟩ : ∃ q, q = i / st := ⟨_, rfl⟩
  obtain ⟨o, ho⟩ : ∃ o, o = q % x := ⟨_, rfl⟩
  have hq1 : q ≤ 36 := by rw [hq]; exact Nat.le_trans (Nat.div_le_self _ _) (by omega)
  have ho1 : o ≤ 36 := by rw [ho]; exact Nat.le_trans (Nat.mod_le _ _) hq1
  have HZ : Hid ((i : Int) + ((t : Int) - (o : Int)) * (st : Int) = z) := by
    rw [Hid, hz, insN, hxd, ← hst, ← hq, ← ho]
  have b3 : -1296 ≤ ((t : Int) - (o : Int)) * (st : Int) ∧ ((t : Int) - (o : Int)) * (st : Int) ≤ 1296 := by
    have k1 : (t : Int) - (o : Int) ≤ 36 := by omega
    have k2 : -36 ≤ (t : Int) - (o : Int) := by omega
    have k3 := Int.mul_le_mul_of_nonneg_right k1 (show (0 : Int) ≤ (st : Int) by omega)
    have k4 := Int.mul_le_mul_of_nonneg_right k2 (show (0 : Int) ≤ (st : Int) by omega)
    omega
  obtain ⟨M, hM⟩ : ∃ M, M = ((t : Int) - (o : Int)) * (st : Int) := ⟨_, rfl⟩
  rw [← hM] at b3 HZ
  obtain ⟨b4, b5⟩ := b3
  have e1 : Int.tdiv (i : Int) (st : Int) = (q : Int) := by rw [hq]; rfl
  have e2 : IntKind.i64.wrap (q : Int) = (q : Int) := IntWalk.i64_in _ (by omega)
  have e3 : Int.tmod (q : Int) (x : Int) = (o : Int) := by rw [ho]; rfl
  have e6 : ¬ (st : Int) = 0 := by omega
  have e7 : ¬ (x : Int) = 0 := by omega
  have HM := Lib.hid hM
  have Hst : 1 ≤ (st : Int) := by omega
  have Hx : 1 ≤ (x : Int) := by omega
  have Hst2 : (st : Int) ≤ 36 := by omega
  have Hi2 : (i : Int) ≤ 36 := by omega
  obtain ⟨w0, hw0, hb0, rX, Hz⟩ := zao w #[.slice (some ⟨b1, o1, none⟩) sz.length a, x0, .slice (some ⟨b2, o2, none⟩) sz.length s, x3] 134
  have HB := Lib.hid hb0
  have r0 := rX.cell 0
  have r2 := rX.cell 2
  simp at r0 r2
  replace c1 := zac hb0 c1
  replace c2 := zac hb0 c2
  clear hx hxe hst hxd hq ho hM hz h1 h2 ok hb0 rX Hz hp36 hs36
  go_enter Tryz.func218, Tryz.ntmps218
  go_wp2_with fail
  clear hw0
  go_quiet (fail)
  go_wp2_with fail
  go_ret
  exact ⟨zae (by rw [← HM.out, IntWalk.wrap64_in M (by omega), IntWalk.wrap64_in _ (by omega)]; exact HZ.out), below_drewN HB.out nq⟩
theorem drop_le_prd {sz : List Nat} (ok : ∀ x ∈ sz, 1 ≤ x) {p x : Nat} (hx : sz[p]? = some x) : prd sz = prd (sz.take p) * (x * prd (sz.drop (p + 1))) := by
  rw [zee sz p, prd_drop hx]
theorem ins_lt {sz : List Nat} (ok : ∀ x ∈ sz, 1 ≤ x) {i p t x : Nat} (hi : i < prd sz) (hx : sz[p]? = some x) (ht : t < x) : ∃ m : Nat, (m : Int) = insN sz i p t ∧ m < prd sz := by
  have hxd : sz.getD p 0 = x := by rw [List.getD_eq_getElem?_getD, hx]; rfl
  have hst1 := prd_drop_pos ok (p + 1)
  have hpr := drop_le_prd ok hx
  unfold insN
  rw [hxd]
  obtain ⟨st, hst⟩ : ∃ st, st = prd (sz.drop (p + 1)) := ⟨_, rfl⟩
  rw [← hst] at hst1 hpr ⊢
  obtain ⟨H, hH⟩ : ∃ H, H = prd (sz.take p) := ⟨_, rfl⟩
  rw [← hH] at hpr
  obtain ⟨q, hq⟩ : ∃ q, q = i / st := ⟨_, rfl⟩
  obtain ⟨lo, hlo⟩ : ∃ lo, lo = i % st := ⟨_, rfl⟩
  obtain ⟨o, ho⟩ : ∃ o, o = q % x := ⟨_, rfl⟩
  obtain ⟨h, hh⟩ : ∃ h, h = q / x := ⟨_, rfl⟩
  have e1 : st * q + lo = i := by rw [hq, hlo]; exact Nat.div_add_mod i st
  have e2 : x * h + o = q := by rw [ho, hh]; exact Nat.div_add_mod q x
  have hlo1 : lo < st := by rw [hlo]; exact Nat.mod_lt _ hst1
  have hx1 : 0 < x := by omega
  have hhH : h < H := by
    have h1 : q < H * x := by
      rw [hq, Nat.div_lt_iff_lt_mul hst1]
      rw [hpr] at hi
      rw [Nat.mul_assoc]; exact hi
    rw [hh, Nat.div_lt_iff_lt_mul hx1]
    exact h1
  rw [← hq, ← ho]
  refine ⟨st * (x * h + t) + lo, ?_, ?_⟩
  · have e3 : (i : Int) = (st : Int) * ((x : Int) * h + o) + lo := by rw [← e1, ← e2]; simp
    rw [e3]
    simp only [Int.natCast_add, Int.natCast_mul]
    generalize (st : Int) = S
    generalize (x : Int) * (h : Int) = Y
    grind
  · have e4 : x * h + t + 1 ≤ x * (h + 1) := by rw [Nat.mul_succ]; omega
    have e5 : st * (x * h + t) + st ≤ st * (x * (h + 1)) := by
      have := Nat.mul_le_mul_left st e4
      rw [Nat.mul_add st _ 1, Nat.mul_one] at this
      exact this
    have e6 : st * (x * (h + 1)) ≤ prd sz := by
      rw [hpr, Nat.mul_comm H, Nat.mul_comm x st, Nat.mul_assoc st x H]
      exact Nat.mul_le_mul_left _ (Nat.mul_le_mul_left _ hhH)
    omega
def rowP (ps : List (List Rat)) (p : Nat) : List Rat := ps.getD p []
def alw (sz : List Nat) (ps : List (List Rat)) (p t : Nat) : List Rat := (List.range (prd sz)).map fun i => (rowP ps p).getD (insN sz i p t).toNat 0 - (rowP ps p).getD i 0
theorem alw_len (sz : List Nat) (ps : List (List Rat)) (p t : Nat) : (alw sz ps p t).length = prd sz := by simp [alw]
theorem alw_at {sz : List Nat} {ps : List (List Rat)} {p t i m : Nat} {x y : Rat} (hi : i < prd sz) (hm : (m : Int) = insN sz i p t) (hx : (rowP ps p)[m]? = some x) (hy : (rowP ps p)[i]? = some y) : (alw sz ps p t)[i]? = some (x - y) := by
  unfold alw
  rw [List.getElem?_map, List.getElem?_range hi, Option.map_some, ← hm, Int.toNat_natCast, List.getD_eq_getElem?_getD, List.getD_eq_getElem?_getD, hx, hy]
  rfl
theorem hpt3 {w : World} {V : Nat} {S : World → Prop} (j : Nat) (h : Hid (∀ W : World, Below w.heap.size w W → S W)) (r : NeL V S) : Hid (∀ W : World, Below w.heap.size w W → ∀ x y z, S (pt3 W V j x y z)) := fun W hW x y z =>
  r (fun W => pt3 W V j x y z) (fun b o v W n h => by
    have k : ∀ (W : World) (i : Nat) (u : Value), W.cell? ⟨b, o, none⟩ = some v → (W.setCell ⟨V, i, none⟩ u).cell? ⟨b, o, none⟩ = some v := fun W i u h => (World.cell?_setCell_other _ _ _ _ (fun e => n (by cases e; rfl))).trans h
    exact k _ _ _ (k _ _ _ (k _ _ _ h))) W (h.out W hW)
theorem NFok.s36 {sz : List Nat} {ps : List (List Rat)} (h : NFok sz ps) {p x : Nat} (hx : sz[p]? = some x) : x ≤ 36 := by
  have h1 := Nat.le_trans (zdr sz p) h.sum
  rw [sum_drop hx] at h1
  omega
set_option maxRecDepth 100000 in
set_option maxHeartbeats 4000000 in
theorem always_f {w : World} {v : Value} {sz : List Nat} {ps : List (List Rat)} (h : IsForm w v sz ps) (ok : NFok sz ps) {p t x : Nat} (hx : sz[p]? = some x) (ht : t < x) : Calls Tryz.prog 177 #[v, .int .i64 (p : Int), .int .i64 (t : Int)] w (RetFs w (alw sz ps p t)) := by
  obtain ⟨A, a, B, b, S, s, P, c, rfl, h1, h3, h4⟩ := h
  have H1 := Lib.hid h1
  have H3 := Lib.hid h3
  have OK := Lib.hid ok
  have HX := Lib.hid (And.intro hx ht)
  have hp : p < sz.length := (List.getElem?_eq_some_iff.1 hx).1
  have hpp : p < ps.length := by rw [ok.len]; exact hp
  obtain ⟨r, hre⟩ : ∃ r, r = ps[p] := ⟨_, rfl⟩
  have hr := List.getElem?_eq_getElem hpp
  rw [← hre] at hr
  have HR : Hid (rowP ps p = r) := by unfold Hid rowP; rw [List.getD_eq_getElem?_getD, hr]; rfl
  have hrm : r ∈ ps := List.mem_of_getElem? hr
  have HL : Hid (r.length = prd sz ∧ ∀ q ∈ r, Fz q) := ⟨ok.row _ hrm, fun q hq => (ok.num _ hrm q hq).fz⟩
  obtain ⟨bP, oP, B1, d1, rfl, hfs, hcell⟩ := h4.get hr
  have hbP : bP < w.heap.size := World.block_lt_of_cell? w _ hcell
  have hp36 : prd sz ≤ 36 := ok.prod
  obtain ⟨M, hM⟩ : ∃ M, M = prd sz := ⟨_, rfl⟩
  have hrl : r.length = M := by rw [hM]; exact HL.out.1
  rw [hrl] at hcell hfs
  have HF := Lib.hid hfs
  have HRL := Lib.hid hrl
  rw [← hM] at hp36 ⊢
  have HM := Lib.hid hM
  obtain ⟨w0, hw0, hb0, rX, Hz⟩ := zao w #[.slice A sz.length a, .slice B ps.length b, .slice S sz.length s, .int .i64 (M : Int), .slice (some ⟨bP, oP, none⟩) ps.length c] 137
  have HB0 := Lib.hid hb0
  have RX := Lib.hid rX
  obtain ⟨x0, x1, x2, x3, x4⟩ := row5 rX
  have hc0 := zac hb0 hcell
  clear h1 h3 h4 ok hx ht hre hr hrm hfs hM rX hb0 hrl
  go_enter Tryz.func177, Tryz.ntmps177
  go_wp2_with (at_make; refine wp_make3 elFr rfl _ _ rfl M rfl rfl rfl rfl og ?_; intro w1 hrow hb1 hz1; obtain ⟨y0, y1, y2, y3, y4⟩ := row5 (RX.out.next hb1); have hc1 := zac hb1 hc0)
  obtain ⟨G, hG⟩ : ∃ G, G = w0.heap.size := ⟨_, rfl⟩
  rw [← hG] at hrow
  rw [← hG]
  have HG : Hid (G = w.heap.size + 1) := by rw [Hid, hG]; exact Hz.out
  have HG2 : Hid (w0.heap.size ≤ G) := by rw [hG]; exact Nat.le_refl _
  have HB1 := Lib.hid (zaa HB0.out hb1)
  clear hG y0 y1 y2 y3 y4 hc1 x0 x1 x2 x3 x4 hc0
  go_loopw [20] (fun i wr => ∃ (k : Nat) (fs : List Value), k ≤ M ∧ i = .int .i64 (k : Int) ∧ RowE wr G 150 fs ∧ Below w0.heap.size w0 wr ∧ Hid (Fil (IsF wr) fs (alw sz ps p t) k)) (fun i _ => M - (intOf i).toNat)
  case atStart => exact ⟨0, _, Nat.zero_le _, rfl, hrow, hb1, Fil.zero (by rw [alw_len, List.length_replicate]; exact HM.out)⟩
  case round =>
    clear hrow hb1 hz1
    obtain ⟨k, fs, hk, rfl, hg, hbw, hf⟩ := hrel
    have HGr := Lib.hid hg
    have HBW := Lib.hid (zaa HB0.out hbw)
    have HBW0 := Lib.hid hbw
    rcases Nat.lt_or_ge k M with hlt | hge
    · have hlt2 : k < prd sz := by rw [← HM.out]; exact hlt
      obtain ⟨m, hm, hm2⟩ := ins_lt OK.out.pos hlt2 HX.out.1 HX.out.2
      rw [← HM.out] at hm2
      obtain ⟨q1, hq1⟩ : ∃ q, r[m]? = some q := ⟨_, List.getElem?_eq_getElem (by rw [HRL.out]; exact hm2)⟩
      obtain ⟨q2, hq2⟩ : ∃ q, r[k]? = some q := ⟨_, List.getElem?_eq_getElem (by rw [HRL.out]; exact hlt)⟩
      have HQ := Lib.hid (And.intro hq1 hq2)
      have HAl : Hid ((alw sz ps p t)[k]? = some (q1 - q2)) := alw_at hlt2 hm (by rw [HR.out]; exact hq1) (by rw [HR.out]; exact hq2)
      have HMi := Lib.hid hm
      obtain ⟨bB, oB, u0, u1, u2, rfl, hbB, hre1, c0, c1, c2⟩ := (HF.out.next HBW.out).get hq1
      have HE1 := Lib.hid hre1
      obtain ⟨s1, P1, m1, k1, S1, n1, d1', rfl, rfl, rfl⟩ := frac3 hre1
      obtain ⟨bB2, oB2, u0, u1, u2, e9, _, hre2, e0, e1, e2⟩ := (HF.out.next HBW.out).get hq2
      cases e9
      have HE2 := Lib.hid hre2
      obtain ⟨s2, P2, m2, k2, S2, n2, d2, rfl, rfl, rfl⟩ := frac3 hre2
      rw [← Nat.add_assoc] at c1 c2 e1 e2
      have hbB0 : bB < w.heap.size := by
        obtain ⟨_, _, _, _, _, e9, h9, _⟩ := HF.out.get hq1
        cases e9; exact h9
      obtain ⟨w2, hw2, hb2, rB, Hz2⟩ := zao wr #[.bool s2, .slice P2 m2 k2, .slice S2 n2 d2] 150
      have HB2 := Lib.hid (zaa HBW.out hb2)
      have HB20 := Lib.hid (zaa HBW0.out hb2)
      have HB3 := Lib.hid hb2
      obtain ⟨b0, b1, b2⟩ := zab rB
      have RX2 := Lib.hid (RX.out.next HB20.out)
      obtain ⟨y0, y1, y2, y3, y4⟩ := row5 RX2.out
      have hc2 := zac HB20.out (zac HB0.out hcell)
      have ng : w.heap.size ≠ G := by have := HG.out; omega
      have nb : bB ≠ G := by have := HG.out; omega
      have nP : bP ≠ G := by have := HG.out; omega
      have nx : wr.heap.size ≠ G := by have := HGr.out.1.lt; omega
      have HS := hs12 y0 y1 y2 y3 y4 hc2 (zac hb2 c0) (zac hb2 c1) (zac hb2 c2) b0 b1 b2
      have HP := hpt3 k HS (nA ng (nA ng (nA ng (nA ng (nA ng (nA nP (nA nb (nA nb (nA nb (nA nx (nA nx (nZ nx))))))))))))
      have hmM : m < M := hm2
      have D1 := Lib.hid fun W (hW : Below w2.heap.size w2 W) => instead_n (x0 := .slice B ps.length b) (x3 := .int .i64 (M : Int)) (H1.out.next (zaa HB2.out hW)) (H3.out.next (zaa HB2.out hW)) OK.out.pos OK.out.prod OK.out.sum (i := k) (p := p) (t := t) (by omega) hp (by have := OK.out.s36 HX.out.1; have := HX.out.2; omega) HMi.out
      have D2 := Lib.hid fun W (hW : Below w2.heap.size w2 W) => sub_f (HE1.out.next (zaa HB3.out hW)) (HE2.out.next (zaa HB3.out hW)) (HL.out.2 q1 (List.mem_of_getElem? HQ.out.1)) (HL.out.2 q2 (List.mem_of_getElem? HQ.out.2)) rfl
      clear hlt2 hm hm2 hq1 hq2 hre1 hre2 c0 c1 c2 hb2 rB b0 b1 b2 y0 y1 y2 y3 y4 hc2 ng nb nP nx hbB hbB0 hbw hg
      go_wp2_with fail
      clear hw2 e0 e1 e2
      have hkf : k < fs.length := by rw [hf.out.1, alw_len, ← HM.out]; exact hlt
      have HK := Lib.hid hkf
      clear hkf
      go_region_held3 (SH.mk _ HS).s
        (first | exact HS.out _ bel | exact HP.out _ bel _ _ _)
        (first
          | (go_at_call 218; (with_reducible refine Calls.mono (D1.out _ bel) ?_); rintro e w3 ⟨rfl, hb3⟩; )
          | (go_at_call 219; (with_reducible refine Calls.mono (D2.out _ bel) ?_); rintro e w4 ⟨⟨v4, rfl, hv4⟩, hb4⟩; have V4 := Lib.hid hv4; obtain ⟨A4, m4, c4, Z4, n4, d4, rfl, _, _⟩ := hv4; have HR4 := Lib.hid (HGr.out.next (zaa HB3.out (bW w2 w4).out)); obtain ⟨g0, g1, g2, t0, t1, t2⟩ := HR4.out.any HK.out; obtain ⟨f0, f1, f2⟩ := HR4.out.free k))
      have B4 := bW w2 w4
      go_wp2_with fail
      go_roundw
      case rel =>
        exact ⟨k + 1, _, by omega, by go_num, HR4.out.put HK.out _ _ _, zez (zaa HB20.out B4.out) HG2.out _ _ _,
          Fil.set (hf.out.imp fun e q h => (h.next (zaa HB3.out B4.out)).ku (HR4.out.kt zdy rat_ne.2.2 k _ _ _).1) HAl.out (V4.out.ku (HR4.out.kt zdy rat_ne.2.2 k _ _ _).1)⟩
      case measure => simp [intOf]; omega
    · obtain rfl : k = M := og
      go_wp2_with fail
      go_ret
      have hl := alw_len sz ps p t
      rw [← HM.out] at hl
      exact ⟨⟨_, rfl, by have := isFs_row HGr.out (hf.out.all (by rw [hl]; exact Nat.le_refl _)) (by rw [hl]; unfold maxLen; omega); rw [hl] at this; exact this⟩, HBW.out⟩
def zcv (sz : List Nat) (ps : List (List Rat)) (d : List Rat) (p t : Nat) : Rat := tot (mulL d (alw sz ps p t)) d.length
structure GainOk (sz : List Nat) (ps : List (List Rat)) (d : List Rat) : Prop where
  len : d.length = prd sz
  fd : ∀ q ∈ d, Fz q
  fa : ∀ p x t, sz[p]? = some x → t < x → ∀ q ∈ alw sz ps p t, Fz q
  fm : ∀ p x t, sz[p]? = some x → t < x → ∀ q ∈ mulL d (alw sz ps p t), Fz q
  fs : ∀ p x t, sz[p]? = some x → t < x → ∀ k, k ≤ d.length → Fz (tot (mulL d (alw sz ps p t)) k)
set_option maxHeartbeats 1000000 in
theorem gain_f {w : World} {v vd : Value} {sz : List Nat} {ps : List (List Rat)} {d : List Rat} (h : IsForm w v sz ps) (hd : IsFs w vd d) (ok : NFok sz ps) (g : GainOk sz ps d) {p t x : Nat} (hx : sz[p]? = some x) (ht : t < x) : Calls Tryz.prog 110 #[v, vd, .int .i64 (p : Int), .int .i64 (t : Int)] w (RetF w (zcv sz ps d p t)) := by
  have H := Lib.hid h
  have HD := Lib.hid hd
  have OK := Lib.hid ok
  have GO := Lib.hid g
  have HX := Lib.hid (And.intro hx ht)
  obtain ⟨A, a, B, b, S, s, P, c, rfl, _⟩ := h
  obtain ⟨D, e, rfl, _⟩ := hd.hd
  obtain ⟨M, hM⟩ : ∃ M : Int, M = ((prd sz : Nat) : Int) := ⟨_, rfl⟩
  rw [← hM] at H ⊢
  obtain ⟨w0, hw0, hb0, rX, rZ, Hz⟩ := zbj w #[.slice A sz.length a, .slice B ps.length b, .slice S sz.length s, .int .i64 M, .slice P ps.length c] #[.bool false, .slice none 0 0, .slice none 0 0] 137 150
  have HB0 := Lib.hid hb0
  have HZ := Lib.hid rZ
  obtain ⟨x0, x1, x2, x3, x4⟩ := row5 rX
  obtain ⟨cZ0, cZ1, cZ2⟩ := zab rZ
  obtain ⟨fZ0, fZ1, fZ2⟩ := zan rZ
  clear hd ok g hx ht hM hb0 rX rZ
  go_enter Tryz.func110, Tryz.ntmps110
  go_wp2_with fail
  clear hw0
  refine (always_f (H.out.next HB0.out) OK.out HX.out.1 HX.out.2).mono ?_
  rintro e w1 ⟨⟨v1, rfl, hv1⟩, hb1⟩
  have V1 := Lib.hid hv1
  obtain ⟨A1, c1, rfl, _⟩ := hv1.hd
  have HB1 := Lib.hid (zaa HB0.out hb1)
  clear hv1
  go_wp2_with fail
  refine (inner_f (HD.out.next HB1.out) V1.out (by rw [alw_len]; exact GO.out.len) GO.out.fd (GO.out.fa p x t HX.out.1 HX.out.2) (GO.out.fm p x t HX.out.1 HX.out.2) (GO.out.fs p x t HX.out.1 HX.out.2)).mono ?_
  rintro e w2 ⟨⟨v2, rfl, hv2⟩, hb2⟩
  have V2 := Lib.hid hv2
  obtain ⟨A4, m4, c4, B4, n4, d4, rfl, _, _⟩ := hv2
  have HB2 := Lib.hid (zaa HB1.out hb2)
  have HZ4 := Lib.hid (HZ.out.next (zaa hb1 hb2))
  obtain ⟨dZ0, dZ1, dZ2⟩ := zab HZ4.out
  obtain ⟨gZ0, gZ1, gZ2⟩ := zan HZ4.out
  go_wp2_with fail
  exact zau Tryz.results110 rfl rfl (HZ4.out.put3 _ _ _) (retF HZ4.out V2.out HB2.out og)
def SeqD {σ : Type} (F : Fence) (n : Nat) (P : Program) (g : Nat) (lb : Array Value) (Val : Nat → σ → Array Value → Prop) (Rd : σ → World → Prop) (N : Nat) (w : World) : Prop :=
  ∀ (l : Nat) (J : Nat × σ → World → Prop) (W : World), Below w.heap.size w W → AbidesFrom W.heap.size J → (∀ k s W1, J (k, s) W1 → Rd s W1) →
    (∀ k s vs W1, J (k, s) W1 → k < N → Val k s vs → YieldAt F (n - 1) P l vs W1 fun e W' => e = .returned (.bool true) ∧ ∃ s', J (k + 1, s') W') →
    (∀ k s W1, J (k, s) W1 → k < N → (∀ vs, ¬ Val k s vs) → J (k + 1, s) W1) → (∃ s, J (0, s) W) →
    CallsIn F n P g (#[.func (.yield l) #[] #[]] ++ lb) W fun e W' => (∃ v, e = .returned v) ∧ ∃ s, J (N, s) W'
def endD {σ : Type} (B : Nat) (I : Nat × σ → World → Prop) (k : Nat) (W : World) : Exit → Act → World → Prop
  | .normal, _, W' => KeepsFrom B W W' ∧ ∃ s', I (k + 1, s') W'
  | _, _, _ => False
section
variable {F : Fence} {n : Nat} {P : Program}
theorem wpIn_rangeFunc_D {σ : Type} {g : Operand} {ps : Array Tmp} {assign body : Code} {Q : Exit → Act → World → Prop} {a : Act} {w : World}
    (hro : F.round = none) (h1 : 1 ≤ n) {gf : Nat} {lb : Array Value} (hg : a.eval g = .func (.func gf) #[] lb) (hFg : F.fn gf) (eg : ∀ args w, (callFunc gf args).run P w = .ok (.enter gf args) w)
    {Val : Nat → σ → Array Value → Prop} {Rd : σ → World → Prop} {N : Nat} {w0 : World} (hseq : SeqD F (n - 1) P gf lb Val Rd N w0) (hb0 : Below w0.heap.size w0 w) (hps : ∀ k s vs, Val k s vs → vs.size = ps.size)
    (I : Nat × σ → World → Prop) (hI : OwnFrom w.heap.size I) (hRd : ∀ k s W, I (k, s) W → Rd s W) (hskip : ∀ k s W, I (k, s) W → k < N → (∀ vs, ¬ Val k s vs) → I (k + 1, s) W) (h0 : ∃ s, I (0, s) w) (a₁ : Array Value → Act)
    (hassign : ∀ (l k : Nat) (s : σ) (vs : Array Value) (W : World) (K : Act → World → Prop), Val k s vs → K (a₁ vs) W →
      assign.wpIn (F.inRound l) (n - 1 - 1) P (Exit.then K (fun _ _ _ => False)) { tmps := (ps.zip vs).foldl (fun t (p, v) => t.setIfInBounds p v) a.tmps, defers := [] } W)
    (hbody : ∀ (l k : Nat) (s : σ) (vs : Array Value) (W : World), w.heap.size ≤ l → (∃ r, W.heap[l]? = some (.loop r)) → I (k, s) W → k < N → Val k s vs → body.wpIn (F.inRound l) (n - 1 - 1) P (endD w.heap.size I k W) (a₁ vs) W)
    (hdone : ∀ (D : Nat) (s : σ) (W : World), w.heap.size ≤ D → I (N, s) W → W.heap[D]? = some (.deferred (some [])) → Q .normal { a with defers := { target := .collected D, args := #[] } :: a.defers } W) :
    (Code.rangeFunc g ps assign body).wpIn F n P Q a w := by
  refine wpIn_rangeFunc fun fn hfn => ?_
  rw [hro]
  obtain ⟨D, hD⟩ : ∃ D, D = w.heap.size := ⟨_, rfl⟩
  obtain ⟨rec, hrec⟩ : ∃ rec : LoopState → Option Code → Loop, rec = fun st pe => { state := st, pending := pe, fn, tmps := a.tmps, params := ps, assign, body, defers := D } := ⟨_, rfl⟩
  obtain ⟨V, hV⟩ : ∃ V, V = (w.alloc (.deferred (some []))).alloc (.loop (rec .ready none)) := ⟨_, rfl⟩
  have recAt : V.heap[D + 1]? = some (.loop (rec .ready none)) := by
    have h := World.alloc_heap_new (w.alloc (.deferred (some []))) (.loop (rec .ready none))
    rw [World.size_alloc] at h
    rw [hV, hD]
    exact h
  have defAt : V.heap[D]? = some (.deferred (some [])) := by
    rw [hV, hD]
    exact (Below.heap_alloc _ _ _ (by simp)).trans (World.alloc_heap_new w _)
  have hIV : ∃ s, I (0, s) V := by
    obtain ⟨s, hs⟩ := h0
    exact ⟨s, by rw [hV]; exact hI.alloc _ (hI.alloc _ hs)⟩
  have hVsize : V.heap.size = D + 2 := by rw [hV, hD]; simp
  have hbV : Below w0.heap.size w0 V := by
    rw [hV]
    exact hb0.trans ((((Below.refl _ w).alloc (Nat.le_refl _) _).alloc (by simp) _).mono hb0.size)
  rw [← hD] at hI hbody hdone
  refine ⟨D + 1, [{ target := .collected D, args := #[] }], V, { target := .fn (.func gf) lb, args := #[.func (.yield (D + 1)) #[] #[]] }, V, gf, #[.func (.yield (D + 1)) #[] #[]] ++ lb, V, ?_, ?_, ?_, ?_, fun _ => h1, ?_⟩
  · rw [hV, hrec, hD]
    exact run_enterLoop_outer _ _ _ _ _
  · simp only [resolve, hg]
    simp [go_sem]
  · intro f' hf'
    simp [Target.leads] at hf'
    subst hf'
    exact hFg
  · simp [invoke, go_sem, eg]
  have walk : ∀ {A B : World} {row : Option Nat}, (∀ r, row = some r → V.heap.size ≤ r ∧ ∃ o : Obj, A.heap[r]? = some o ∧ o.isWalk = true) → ∀ r, row = some r → D ≤ r ∧ ∃ o : Obj, A.heap[r]? = some o ∧ o.isCells = false := fun hr r e => by
    obtain ⟨hB, o, ho, hw⟩ := hr r e
    exact ⟨by omega, o, ho, Obj.not_cells_of_walk hw⟩
  refine (hseq (D + 1) (fun p W => I p W ∧ W.heap[D + 1]? = some (.loop (rec .ready none)) ∧ W.heap[D]? = some (.deferred (some []))) V hbV
    (fun p A B row hp hg' hr => ⟨hI p A B row hp.1 hg' (walk (B := B) hr), (grownBy_keeps hg' (fun r e => (hr r e).2) hp.2.1 rfl).trans hp.2.1, (grownBy_keeps hg' (fun r e => (hr r e).2) hp.2.2 rfl).trans hp.2.2⟩)
    (fun k s W1 h => hRd k s W1 h.1) ?round (fun k s W1 h hk hn => ⟨hskip k s W1 h.1 hk hn, h.2⟩) (by obtain ⟨s, hs⟩ := hIV; exact ⟨s, hs, recAt, defAt⟩)).mono ?behind
  case behind =>
    rintro e W ⟨⟨v, rfl⟩, s, hs, hl, hk⟩
    have hend := run_endLoop (P := P) hl (by rw [hrec]; simp)
    rw [hrec] at hend
    exact ⟨none, _, hend, hdone D s _ (Nat.le_refl _) (hI.putObj _ hs (by omega) hl rfl) ((World.putObj_heap_other (by omega)).trans hk)⟩
  case round =>
    rintro k s vs W ⟨hi, hl, hk⟩ hkN hval
    have hlt : D + 1 < W.heap.size := (Array.getElem?_eq_some_iff.1 hl).1
    have hy := run_yield (P := P) (args := vs) hl (by rw [hrec]; exact hps k s vs hval)
    rw [hrec] at hy
    refine ⟨fn, _, assign, body, hy, roundIn_of_wpIn hfn (hassign _ k s vs W _ hval ⟨_, run_beginRound hl (by rw [hrec]), ?_⟩)⟩
    obtain ⟨B, hB⟩ : ∃ B, B = W.putObj (D + 1) (.loop { rec .ready none with state := .busy }) := ⟨_, rfl⟩
    have busyAt : B.heap[D + 1]? = some (.loop { rec .ready none with state := .busy }) := by rw [hB]; exact World.putObj_heap_same hlt
    have defB : B.heap[D]? = some (.deferred (some [])) := by rw [hB]; exact (World.putObj_heap_other (by omega)).trans hk
    rw [← hB]
    refine wpIn_mono (hbody (D + 1) k s vs B (by omega) ⟨_, busyAt⟩ (by rw [hB]; exact hI.putObj _ hi (by omega) hl rfl) hkN hval) ?_
    rintro e a3 W3 hp
    cases e with
    | normal =>
      obtain ⟨hk3, s', hs'⟩ := hp
      have hl3 := hk3.same _ _ (by omega) busyAt rfl
      have hend := run_endRound (P := P) none hl3
      rw [hrec] at hend hl3
      refine ⟨_, _, hend, rfl, s', hI.putObj _ hs' (by omega) hl3 rfl, ?_, (World.putObj_heap_other (by omega)).trans (hk3.same _ _ (by omega) defB rfl)⟩
      rw [hrec]
      exact World.putObj_heap_same (Array.getElem?_eq_some_iff.1 hl3).1
    | ret => exact hp.elim
    | exit id => exact hp.elim
    | goto t => exact hp.elim
    | panic ch => exact hp.elim
    | outgrown => exact hp.elim
end
end Go.Proofs.YtijjjbgnpfjpmaaGreatDoor
namespace Go.Proofs.YtijjjbgnpfjpmaaGreatDoor
open Go.RowKit Go.Shelf
attribute [local go_sem] Oper.semAt_some
set_option linter.unusedVariables false
def dv : Nat → List Nat → List (Nat × Nat)
  | _, [] => []
  | p, x :: l => (List.range x).map (fun t => (p, t)) ++ dv (p + 1) l
theorem dv_len (q : Nat) (l : List Nat) : (dv q l).length = l.sum := by
  induction l generalizing q with
  | nil => rfl
  | cons x l ih => simp [dv, ih]
theorem dv_at {l : List Nat} {p x t : Nat} (q : Nat) (h : l[p]? = some x) (ht : t < x) : (dv q l)[(l.take p).sum + t]? = some (q + p, t) := by
  induction l generalizing p q with
  | nil => simp at h
  | cons y l ih =>
    cases p with
    | zero =>
      simp at h
      subst h
      rw [dv, List.take_zero, List.sum_nil, Nat.zero_add, List.getElem?_append_left (by simpa using ht), List.getElem?_map, List.getElem?_range ht]
      rfl
    | succ p =>
      have h' : l[p]? = some x := by simpa using h
      rw [dv, List.take_succ_cons, List.sum_cons, List.getElem?_append_right (by simp; omega), List.length_map, List.length_range, show y + (l.take p).sum + t - y = (l.take p).sum + t by omega, ih (q + 1) h']
      congr 2
      omega
theorem take_sum {l : List Nat} {p x : Nat} (h : l[p]? = some x) : (l.take (p + 1)).sum = (l.take p).sum + x := by
  have hk : p < l.length := (List.getElem?_eq_some_iff.1 h).1
  have he : l[p] = x := (List.getElem?_eq_some_iff.1 h).2
  rw [List.take_succ_eq_append_getElem hk, List.sum_append, he]
  simp
theorem take_sum_le (l : List Nat) (k : Nat) : (l.take k).sum ≤ l.sum := by
  have e : l.sum = (l.take k ++ l.drop k).sum := by rw [List.take_append_drop]
  rw [e, List.sum_append]
  omega
def ValDv (sz : List Nat) (k : Nat) (vs : Array Value) : Prop := ∃ p t x, sz[p]? = some x ∧ t < x ∧ k = (sz.take p).sum + t ∧ vs = #[.int .i64 (p : Int), .int .i64 (t : Int)]
def RdDv (w : World) (A : Option Addr) (a B : Nat) (sz : List Nat) (W : World) : Prop := Below w.heap.size w W ∧ W.cell? ⟨B, 0, none⟩ = some (.slice A sz.length a)
set_option maxRecDepth 100000 in
set_option maxHeartbeats 4000000 in
theorem dev_seq (q : Nat) (hq : 1 ≤ q) {w : World} {A : Option Addr} {a B : Nat} {sz : List Nat} (hs : IsNs w (.slice A sz.length a) sz) (hs36 : sz.sum ≤ 36) (hl : sz.length ≤ 4) :
    SeqD (σ := Unit) Fence.wide q Tryz.prog 212 #[.pointer (some ⟨B, 0, none⟩)] (fun k _ => ValDv sz k) (fun _ => RdDv w A a B sz) sz.sum w := fun l J W hW hJ hRd hY hS' h0 => by
  have HJ := Lib.hid hJ
  have HR := Lib.hid (fun k W1 => hRd k () W1)
  have HY := Lib.hid (fun k vs W1 (h : J (k, ()) W1) => hY k () vs W1 h)
  have H0 : Hid (J (0, ()) W) := by obtain ⟨_, h⟩ := h0; exact h
  have HS := Lib.hid hs
  have H36 := Lib.hid hs36
  obtain ⟨hbl, hb0⟩ := hRd 0 () W H0.out
  clear hJ hRd hY hS' h0 hs hs36
  refine callsIn_of_wp Tryz.func212 rfl trivial ?_ rfl
  simp only [Tryz.ntmps212, List.size_toArray, List.length_cons, List.length_nil, Nat.reduceAdd, Nat.reduceSub, Array.replicate_succ, Array.replicate_zero, List.push_toArray, List.append_toArray, List.nil_append, List.cons_append]
  gi_wp2
  clear hb0 hbl
  gi_loopw [10] (fun i wr => ∃ k : Nat, k ≤ sz.length ∧ i = .int .i64 (k : Int) ∧ J ((sz.take k).sum + 0, ()) wr) (fun i _ => sz.length - (intOf i).toNat)
  case atStart => exact ⟨0, Nat.zero_le _, rfl, by simpa using H0.out⟩
  case round =>
    obtain ⟨k, hk, rfl, hJk⟩ := hrel
    have HJk := Lib.hid hJk
    obtain ⟨hbl, hb0⟩ := HR.out _ _ hJk
    clear hJk
    by_cases hlt : k < sz.length
    · have hx := List.getElem?_eq_getElem hlt
      obtain ⟨x, hxe⟩ : ∃ x, x = sz[k] := ⟨_, rfl⟩
      rw [← hxe] at hx
      have HX := Lib.hid hx
      obtain ⟨b, o, rfl, _, hc⟩ := HS.out.at hx
      replace hc := zac hbl hc
      have hsx : x ≤ 36 := by
        have h1 := Nat.le_trans (zdr sz k) H36.out
        rw [sum_drop hx] at h1
        omega
      clear hx hxe hbl hb0
      gi_wp2
      clear hc
      gi_loopw [16] (fun i wr => ∃ o : Nat, o ≤ x ∧ i = .int .i64 (o : Int) ∧ J ((sz.take k).sum + o, ()) wr) (fun i _ => x - (intOf i).toNat)
      case atStart => exact ⟨0, Nat.zero_le _, rfl, HJk.out⟩
      case round =>
        obtain ⟨t, ht, rfl, hJo⟩ := hrel
        have HJo := Lib.hid hJo
        clear hJo
        by_cases hon : t < x
        · have hlt2 : (sz.take k).sum + t < sz.sum := by
            have h1 := take_sum HX.out
            have h2 := take_sum_le sz (k + 1)
            omega
          obtain ⟨fn, tmps, assign, body, hyy, hR⟩ := HY.out _ #[.int .i64 (k : Int), .int .i64 (t : Int)] wr HJo.out hlt2 ⟨k, t, x, HX.out, hon, rfl, rfl⟩
          have HRn := Lib.hid hR
          clear hR hlt2
          gi_wp2
          refine HRn.out.mono ?_
          rintro e W3 ⟨rfl, _, hJ3⟩
          have HJ3 := Lib.hid hJ3
          clear hJ3
          gi_wp2
          go_roundw
          case rel => exact ⟨t + 1, by omega, by go_num, HJ3.out⟩
          case measure => simp [intOf]; omega
        · obtain rfl : t = x := og
          have HJ3 : Hid (J ((sz.take (k + 1)).sum + 0, ()) wr) := by rw [Hid, take_sum HX.out]; exact HJo.out
          gi_wp2
          go_roundw
          case rel => exact ⟨k + 1, by omega, by go_num, HJ3.out⟩
          case measure => simp [intOf]; omega
    · obtain rfl : k = sz.length := og
      have HJ3 : Hid (J (sz.sum, ()) wr) := by have := HJk.out; rwa [List.take_length, Nat.add_zero] at this
      gi_wp2
      exact ⟨rfl, _, results_none rfl _ _ _, ⟨_, rfl⟩, (), HJ3.out⟩
theorem dev_n (w : World) (x0 x1 x2 x3 : Value) :
    Calls Tryz.prog 172 #[.agg #[x0, x1, x2, x3]] w fun e w' => e = .returned (.func (.func 212) #[] #[.pointer (some ⟨w.heap.size, 0, none⟩)]) ∧ Row w' w.heap.size 134 [x0, x1, x2, x3] ∧ Below w.heap.size w w' := by
  go_enter Tryz.func172, Tryz.ntmps172
  go_wp2_with fail
  go_ret
  obtain ⟨w1, hw1, hb1, hr1, -⟩ := zao w #[x0, x1, x2, x3] 134
  rw [hw1]
  exact ⟨rfl, hr1, hb1⟩
end Go.Proofs.YtijjjbgnpfjpmaaGreatDoor
