/-
  The iterator of package nat's limbs: its contract, inside the wide fence.
-/
import Derived.Test.YtbeocfiimminiaaDoorFit
import Derived.Test.YtbeocfiimminiaaDoorStillIn
import Derived.RangeFuncNested
import Derived.RangeFuncBox
import Derived.RangeFuncBound
import Derived.RangeFuncCalls
import Derived.RangeFuncLeaves
import Derived.Shelf.Abstract
import Derived.Shelf.RegionOpen
import Derived.WalkKit
import Derived.OwnWalkIn
import Derived.TacticsInMore
import Derived.LoopNIn
import Derived.LoopIn
import Derived.Maps.AppendAt
import Derived.Laws.EntriesVeiled
namespace Go.Proofs.YtbeocfiimminiaaDoor
open Go.RowKit Go.Shelf
attribute [local go_sem] Oper.semAt_some
set_option linter.unusedVariables false

/-- Two limbs. -/
abbrev Lim2 := { p : Nat × Nat // p.1 ≤ 999999999 ∧ p.2 ≤ 999999999 }
abbrev enc2 (x : Lim2) : Array Value := #[.int .u32 (x.1.1 : Int), .int .u32 (x.1.2 : Int)]
def pairAt (a b : List Nat) (ha : Lo a) (hb : Lo b) (j : Nat) : Lim2 := ⟨(a.getD j 0, b.getD j 0), by have := lo_getD ha j; omega, by have := lo_getD hb j; omega⟩
/-- What has come when k rounds are over. -/
def upto {α : Type} (f : Nat → α) (k : Nat) : List α := (List.range k).map f
theorem upto_succ {α : Type} (f : Nat → α) (k : Nat) : upto f (k + 1) = upto f k ++ [f k] := by simp [upto, List.range_succ]
theorem upto_length {α : Type} (f : Nat → α) (k : Nat) : (upto f k).length = k := by simp [upto]

theorem IsL.drew {k : IntKind} {w : World} {lo hi : Nat} {v : Value} {l : List Nat} (h : IsL k w lo hi v l) : IsL k w.drew lo hi v l := h.drewN 1

set_option maxHeartbeats 400000 in
theorem at_n {w : World} {va : Value} {a : List Nat} {lo hi : Nat} (k : Nat) (ha : IsL .u32 w lo hi va a) :
    Calls Tryd.prog 66 #[va, .int .i64 (k : Int)] w fun e w' => e = .returned (.int .u32 (a.getD k 0 : Nat)) ∧ w' = w := by
  have hal := ha.length_le
  unfold maxLen at hal
  obtain ⟨A, c, rfl, _, _, hA⟩ := ha
  rcases Nat.lt_or_ge k a.length with h | h
  · obtain ⟨b, off, rfl, _, _, hca⟩ := hA (cel_ne (j := k) h)
    obtain ⟨x, hx, hx0, hck⟩ := cell_at (j := k) hca h
    clear hca
    go_enter Tryd.func66, Tryd.ntmps66
    go_wp2
    go_ret
    exact ⟨ret_int hx.out, rfl⟩
  · have H := Lib.hid (getD_end h)
    go_enter Tryd.func66, Tryd.ntmps66
    go_wp2
    go_ret
    exact ⟨ret_int (by rw [H.out]; rfl), rfl⟩

/-- What a round must keep: what lay below n₀, and the three boxes. -/
def Kp3 (n₀ B : Nat) (va vb : Value) (W W' : World) : Prop :=
  Below n₀ W W' ∧ (Boxed W B 23 va → Boxed W' B 23 va) ∧ (Boxed W (B + 1) 23 vb → Boxed W' (B + 1) 23 vb) ∧ (Boxed W (B + 2) 84 (.func (.func 66) #[] #[]) → Boxed W' (B + 2) 84 (.func (.func 66) #[] #[]))
theorem kp3_t {n₀ B : Nat} {va vb : Value} {X Y Z : World} (h : Kp3 n₀ B va vb X Y) (k : Kp3 n₀ B va vb Y Z) : Kp3 n₀ B va vb X Z :=
  ⟨h.1.trans k.1, fun x => k.2.1 (h.2.1 x), fun x => k.2.2.1 (h.2.2.1 x), fun x => k.2.2.2 (h.2.2.2 x)⟩
theorem boxed_put {W : World} {B l : Nat} {t : TypeId} {v : Value} {o o' : Obj} (h : Boxed W B t v) (hl : W.heap[l]? = some o) (ho : o.isCells = false) : Boxed (W.putObj l o') B t v := by
  refine h.kept (grownBy_putObj' W l o') (fun e => ?_)
  obtain rfl : B = l := by simpa using e
  rw [show W.heap[B]? = _ from h] at hl
  cases hl
  cases ho
theorem kp3_b {n₀ B : Nat} {va vb : Value} {w : World} (hn : n₀ ≤ w.heap.size) (W : World) (l : Nat) (o o' : Obj) (hl : w.heap.size ≤ l) (h : W.heap[l]? = some o) (h1 : o.isCells = false) (h2 : o.isWalk = false) : Kp3 n₀ B va vb W (W.putObj l o') :=
  ⟨belowK_b hn W l o o' hl h h1 h2, fun x => boxed_put x h h1, fun x => boxed_put x h h1, fun x => boxed_put x h h1⟩
theorem kp3_refl {n₀ B : Nat} {va vb : Value} (W : World) : Kp3 n₀ B va vb W W := ⟨Below.refl _ _, id, id, id⟩
theorem kp3_drew {n₀ B : Nat} {va vb : Value} {X Y : World} (h : Kp3 n₀ B va vb X Y) : Kp3 n₀ B va vb X Y.drew := ⟨below_drewN h.1 1, h.2.1, h.2.2.1, h.2.2.2⟩

set_option maxRecDepth 100000 in
set_option maxHeartbeats 2000000 in
theorem limbs_seq (n : Nat) (hn : 1 ≤ n) (n₀ B : Nat) (va vb : Value) (a b : List Nat) (ha : Lo a) (hb : Lo b) (M : Nat) (hM : (b.length ≤ a.length ∧ M = a.length) ∨ (a.length < b.length ∧ M = b.length)) (hMc : M ≤ 4294967296) (w : World) (hB : B + 2 < w.heap.size)
    (h1 : Boxed w B 23 va) (h2 : Boxed w (B + 1) 23 vb) (h3 : Boxed w (B + 2) 84 (.func (.func 66) #[] #[])) (hA : IsL .u32 w 0 n₀ va a) (hA2 : IsL .u32 w 0 n₀ vb b) (hn₀ : n₀ ≤ w.heap.size) :
    SeqStopsK Fence.wide n Tryd.prog 67 #[.pointer (some ⟨B, 0, none⟩), .pointer (some ⟨B + 1, 0, none⟩), .pointer (some ⟨B + 2, 0, none⟩)] enc2 (Kp3 n₀ B va vb) (fun xs => xs = upto (pairAt a b ha hb) M) (fun _ => True) M w := fun l J Jx W hW hJ _ hY h0 => by
  have g1 : Boxed W B 23 va := (hW.block B (by omega)).trans h1
  have g2 : Boxed W (B + 1) 23 vb := (hW.block (B + 1) (by omega)).trans h2
  have g3 : Boxed W (B + 2) 84 (.func (.func 66) #[] #[]) := (hW.block (B + 2) (by omega)).trans h3
  have HA := Lib.hid (hA.below hW hn₀)
  have HB := Lib.hid (hA2.below hW hn₀)
  obtain ⟨A, c, rfl, _, _, _⟩ := hA
  obtain ⟨A', c', rfl, _, _, _⟩ := hA2
  have hc1 := g1.cell
  have hc2 := g2.cell
  clear h1 h2 h3
  have HJ := Lib.hid hJ
  have HY := Lib.hid hY
  have HG := Lib.hid (And.intro g1 (And.intro g2 g3))
  clear hJ hY g1 g2 g3
  refine callsIn_of_wp Tryd.func67 rfl trivial ?_ rfl
  simp only [Tryd.ntmps67, List.size_toArray, List.length_cons, List.length_nil, Nat.reduceAdd, Nat.reduceSub, Array.replicate_succ, Array.replicate_zero, List.push_toArray, List.append_toArray, List.nil_append, List.cons_append]
  rcases hM with ⟨hab, rfl⟩ | ⟨hab, rfl⟩
  · gi_wp2
    gi_loopw [11] (fun i wr => ∃ k : Nat, k ≤ a.length ∧ i = .int .i64 k ∧ J (upto (pairAt a b ha hb) k) wr ∧ Kp3 n₀ B (.slice A a.length c) (.slice A' b.length c') W wr) (fun i _ => a.length - (intOf i).toNat)
    case atStart => exact ⟨0, Nat.zero_le _, rfl, h0, kp3_refl _⟩
    case round =>
      obtain ⟨k, hk, rfl, hJs, hK⟩ := hrel
      clear hc1 hc2
      by_cases hlt : k < a.length
      · obtain ⟨p, hp⟩ : ∃ p, p = pairAt a b ha hb k := ⟨_, rfl⟩
        have hp1 : a.getD k 0 = p.1.1 := by rw [hp]; rfl
        have hp2 : b.getD k 0 = p.1.2 := by rw [hp]; rfl
        have Hp := Lib.hid hp
        clear hp
        obtain ⟨fn, tmps, assign, body, hy, hR⟩ := HY.out _ p wr.drew (HJ.out _ _ _ none hJs ⟨rfl, rfl, rfl, Nat.le_refl _, fun _ _ _ => rfl⟩ (fun r e => by cases e)) (by rw [upto_length]; exact hlt)
        have hk1 := (hK.2.1 HG.out.1).cell
        have hk2 := (hK.2.2.1 HG.out.2.1).cell
        have hk3 := (hK.2.2.2 HG.out.2.2).cell
        dsimp only [enc2] at hy
        have hB1 := at_n k (HA.out.below hK.1 (Nat.le_refl _)).drew
        have hB2 := at_n k (HB.out.below hK.1 (Nat.le_refl _)).drew
        rw [hp1] at hB1
        rw [hp2] at hB2
        have hA1 := Lib.hid hB1
        have hA2 := Lib.hid hB2
        clear hB1 hB2 hp1 hp2
        gi_wp2
        refine wpIn_region_still_tail 9 (by kernel_rfl) (by kernel_rfl) ?_
        change wpStill _ _ wr.drew _ _ _
        simp only [List.take_succ_cons, List.take_zero, List.drop_succ_cons, List.drop_zero]
        still_step
        still_step
        still_step
        still_step
        still_call hA1.out
        still_step
        still_step
        still_step
        still_call hA2.out
        refine wpStill_nil ?_
        gi_wp2
        refine hR.mono ?_
        rintro e W3 (⟨rfl, hJ3, hk3⟩ | ⟨rfl, hJx3⟩)
        · gi_wp2
          go_roundw
          case rel => exact ⟨k + 1, by omega, by go_num, by rw [upto_succ, ← Hp.out]; exact hJ3, kp3_t (kp3_drew hK) hk3⟩
          case measure => simp [intOf]; omega
        · gi_wp2
          refine bodyPost_ret (results_none rfl _ _ _) rfl ?_
          exact ⟨⟨_, rfl⟩, .inr ⟨_, trivial, hJx3⟩⟩
      · obtain rfl : k = a.length := by omega
        gi_wp2
        go_end0
        exact ⟨⟨_, rfl⟩, .inl ⟨_, rfl, hJs⟩⟩
  · gi_wp2
    gi_loopw [11] (fun i wr => ∃ k : Nat, k ≤ b.length ∧ i = .int .i64 k ∧ J (upto (pairAt a b ha hb) k) wr ∧ Kp3 n₀ B (.slice A a.length c) (.slice A' b.length c') W wr) (fun i _ => b.length - (intOf i).toNat)
    case atStart => exact ⟨0, Nat.zero_le _, rfl, h0, kp3_refl _⟩
    case round =>
      obtain ⟨k, hk, rfl, hJs, hK⟩ := hrel
      clear hc1 hc2
      by_cases hlt : k < b.length
      · obtain ⟨p, hp⟩ : ∃ p, p = pairAt a b ha hb k := ⟨_, rfl⟩
        have hp1 : a.getD k 0 = p.1.1 := by rw [hp]; rfl
        have hp2 : b.getD k 0 = p.1.2 := by rw [hp]; rfl
        have Hp := Lib.hid hp
        clear hp
        obtain ⟨fn, tmps, assign, body, hy, hR⟩ := HY.out _ p wr.drew (HJ.out _ _ _ none hJs ⟨rfl, rfl, rfl, Nat.le_refl _, fun _ _ _ => rfl⟩ (fun r e => by cases e)) (by rw [upto_length]; exact hlt)
        have hk1 := (hK.2.1 HG.out.1).cell
        have hk2 := (hK.2.2.1 HG.out.2.1).cell
        have hk3 := (hK.2.2.2 HG.out.2.2).cell
        dsimp only [enc2] at hy
        have hB1 := at_n k (HA.out.below hK.1 (Nat.le_refl _)).drew
        have hB2 := at_n k (HB.out.below hK.1 (Nat.le_refl _)).drew
        rw [hp1] at hB1
        rw [hp2] at hB2
        have hA1 := Lib.hid hB1
        have hA2 := Lib.hid hB2
        clear hB1 hB2 hp1 hp2
        gi_wp2
        refine wpIn_region_still_tail 9 (by kernel_rfl) (by kernel_rfl) ?_
        change wpStill _ _ wr.drew _ _ _
        simp only [List.take_succ_cons, List.take_zero, List.drop_succ_cons, List.drop_zero]
        still_step
        still_step
        still_step
        still_step
        still_call hA1.out
        still_step
        still_step
        still_step
        still_call hA2.out
        refine wpStill_nil ?_
        gi_wp2
        refine hR.mono ?_
        rintro e W3 (⟨rfl, hJ3, hk3⟩ | ⟨rfl, hJx3⟩)
        · gi_wp2
          go_roundw
          case rel => exact ⟨k + 1, by omega, by go_num, by rw [upto_succ, ← Hp.out]; exact hJ3, kp3_t (kp3_drew hK) hk3⟩
          case measure => simp [intOf]; omega
        · gi_wp2
          refine bodyPost_ret (results_none rfl _ _ _) rfl ?_
          exact ⟨⟨_, rfl⟩, .inr ⟨_, trivial, hJx3⟩⟩
      · obtain rfl : k = b.length := by omega
        gi_wp2
        go_end0
        exact ⟨⟨_, rfl⟩, .inl ⟨_, rfl, hJs⟩⟩

set_option maxHeartbeats 1000000 in
/-- The maker of the iterator: three boxes. -/
theorem limbs_n (w : World) (va vb : Value) {a b : List Nat} {lo hi lo' hi' : Nat} (ha : IsL .u32 w lo hi va a) (hb : IsL .u32 w lo' hi' vb b) :
    Calls Tryd.prog 47 #[va, vb] w fun e w' => e = .returned (.func (.func 67) #[] #[.pointer (some ⟨w.heap.size, 0, none⟩), .pointer (some ⟨w.heap.size + 1, 0, none⟩), .pointer (some ⟨w.heap.size + 2, 0, none⟩)]) ∧
      Below w.heap.size w w' ∧ Boxed w' w.heap.size 23 va ∧ Boxed w' (w.heap.size + 1) 23 vb ∧ Boxed w' (w.heap.size + 2) 84 (.func (.func 66) #[] #[]) ∧ w'.heap.size = w.heap.size + 3 := by
  obtain ⟨A, c, rfl, _, _, _⟩ := ha
  obtain ⟨A', c', rfl, _, _, _⟩ := hb
  go_enter Tryd.func47, Tryd.ntmps47
  go_wp2
  go_ret
  have b1 := ((Boxed.new w 23 (.slice A a.length c)).alloc (.cells #[.slice A' b.length c'] 23)).alloc (.cells #[.func (.func 66) #[] #[]] 84)
  have b2 := (Boxed.new (w.alloc (.cells #[.slice A a.length c] 23)) 23 (.slice A' b.length c')).alloc (.cells #[.func (.func 66) #[] #[]] 84)
  have b3 := Boxed.new ((w.alloc (.cells #[.slice A a.length c] 23)).alloc (.cells #[.slice A' b.length c'] 23)) 84 (.func (.func 66) #[] #[])
  rw [World.size_alloc] at b2
  rw [World.size_alloc, World.size_alloc] at b3
  exact ⟨rfl, (((Below.refl _ w).alloc (Nat.le_refl _) _).alloc (by simp) _).alloc (by simp only [World.size_alloc]; omega) _, b1, b2, b3, by simp only [World.size_alloc]⟩
end Go.Proofs.YtbeocfiimminiaaDoor
