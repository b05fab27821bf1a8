/-
  Package nat's Sub and Mul at any two lists.
-/
import Derived.Test.YtbeocfiimminiaaDoorFit
import Derived.Test.YtbeocfiimminiaaDoorNatC
namespace Go.Proofs.YtbeocfiimminiaaDoor
open Go.RowKit
set_option linter.unusedVariables false

set_option maxHeartbeats 400000 in
theorem nsub_bad {w : World} {va vb : Value} {a b : List Nat} {lo hi lo' hi' : Nat} (ha : IsL .u32 w lo hi va a) (hb : IsL .u32 w lo' hi' vb b) (hi1 : hi ≤ w.heap.size) (hi2 : hi' ≤ w.heap.size) (he : fst2 (chk a) (chk b) ≠ 0) :
    Calls Tryd.prog 29 #[va, vb] w fun e w' => e = .returned (.tuple #[.slice none 0 0, .int .i64 (fst2 (chk a) (chk b))]) ∧ Below w.heap.size w w' := by
  have Ha := Lib.hid ha
  have Hb := Lib.hid hb
  obtain ⟨A, c, rfl, _, _, _⟩ := ha
  obtain ⟨B, d, rfl, _, _, _⟩ := hb
  have hne : (fst2 (chk a) (chk b) != 0) = true := bne_iff_ne.2 he
  clear he
  go_enter Tryd.func29, Tryd.ntmps29
  go_wp2_with fail
  refine (first_two (Ha.out.alloc hi1 _) (Hb.out.alloc hi2 _) (two_new _ _ _ _).1 (two_new _ _ _ _).2).mono ?_
  rintro e w1 ⟨rfl, rfl⟩
  go_wp2_with fail
  go_ret2
  exact ⟨rfl, (Below.refl _ _).alloc (Nat.le_refl _) _⟩

set_option maxHeartbeats 400000 in
theorem nmul_bad {w : World} {va vb : Value} {a b : List Nat} {lo hi lo' hi' : Nat} (ha : IsL .u32 w lo hi va a) (hb : IsL .u32 w lo' hi' vb b) (hi1 : hi ≤ w.heap.size) (hi2 : hi' ≤ w.heap.size) (he : fst2 (chk a) (chk b) ≠ 0) :
    Calls Tryd.prog 32 #[va, vb] w fun e w' => e = .returned (.tuple #[.slice none 0 0, .int .i64 (fst2 (chk a) (chk b))]) ∧ Below w.heap.size w w' := by
  have Ha := Lib.hid ha
  have Hb := Lib.hid hb
  obtain ⟨A, c, rfl, _, _, _⟩ := ha
  obtain ⟨B, d, rfl, _, _, _⟩ := hb
  have hne : (fst2 (chk a) (chk b) != 0) = true := bne_iff_ne.2 he
  clear he
  go_enter Tryd.func32, Tryd.ntmps32
  go_wp2_with fail
  refine (first_two (Ha.out.alloc hi1 _) (Hb.out.alloc hi2 _) (two_new _ _ _ _).1 (two_new _ _ _ _).2).mono ?_
  rintro e w1 ⟨rfl, rfl⟩
  go_wp2_with fail
  go_ret2
  exact ⟨rfl, (Below.refl _ _).alloc (Nat.le_refl _) _⟩

set_option maxHeartbeats 1000000 in
theorem nsub_l {w : World} {va vb : Value} {a b : List Nat} {lo hi lo' hi' : Nat} (ha : IsL .u32 w lo hi va a) (hb : IsL .u32 w lo' hi' vb b) (hi1 : hi ≤ w.heap.size) (hi2 : hi' ≤ w.heap.size) :
    Calls Tryd.prog 29 #[va, vb] w fun e w' => (∃ v, e = .returned (.tuple #[v, .int .i64 (sub2e a b)]) ∧ IsN w' w.heap.size w'.heap.size v (sub2 a b)) ∧ Below w.heap.size w w' := by
  by_cases h : fst2 (chk a) (chk b) = 0
  · have Ha := Lib.hid ha
    have Hb := Lib.hid hb
    obtain ⟨A, c, rfl, _, _, _⟩ := ha
    obtain ⟨B, d, rfl, _, _, _⟩ := hb
    obtain ⟨h1, h2⟩ := fst2_zero h
    have Hh := Lib.hid h
    have H1 := Lib.hid h1
    have H2 := Lib.hid h2
    by_cases hlt : val a < val b
    · rw [show sub2e a b = 2 from by unfold sub2e; rw [if_pos h, if_pos hlt], show sub2 a b = 0 from by unfold sub2; rw [if_pos h]; omega]
      have Hs := Lib.hid (sgn_lt hlt)
      clear h h1 h2 hlt
      go_enter Tryd.func29, Tryd.ntmps29
      go_wp2_with fail
      refine (first_two (Ha.out.alloc hi1 _) (Hb.out.alloc hi2 _) (two_new _ _ _ _).1 (two_new _ _ _ _).2).mono ?_
      rw [Hh.out]
      rintro e w1 ⟨rfl, rfl⟩
      go_wp2_with fail
      refine (cmp_n ((Ha.out.isN H1.out).alloc hi1 _) ((Hb.out.isN H2.out).alloc hi2 _)).mono ?_
      rw [Hs.out]
      rintro e w1 ⟨rfl, q, rfl⟩
      go_wp2_with fail
      go_ret2
      exact ⟨⟨_, rfl, IsN.zero⟩, below_drewN ((Below.refl _ _).alloc (Nat.le_refl _) _) q⟩
    · rw [show sub2e a b = 0 from by unfold sub2e; rw [if_pos h, if_neg hlt], show sub2 a b = val a - val b from by unfold sub2; rw [if_pos h]]
      have hs : 0 ≤ sgn (val a) (val b) := by unfold sgn; rw [if_neg hlt]; split <;> omega
      generalize hsg : sgn (val a) (val b) = s at *
      have Hs := Lib.hid hsg
      have Hle : Hid (val b ≤ val a) := Nat.le_of_not_lt hlt
      clear h h1 h2 hlt hsg
      go_enter Tryd.func29, Tryd.ntmps29
      go_wp2_with fail
      refine (first_two (Ha.out.alloc hi1 _) (Hb.out.alloc hi2 _) (two_new _ _ _ _).1 (two_new _ _ _ _).2).mono ?_
      rw [Hh.out]
      rintro e w1 ⟨rfl, rfl⟩
      go_wp2_with fail
      refine (cmp_n ((Ha.out.isN H1.out).alloc hi1 _) ((Hb.out.isN H2.out).alloc hi2 _)).mono ?_
      rw [Hs.out]
      rintro e w1 ⟨rfl, q, rfl⟩
      go_wp2_with fail
      refine (sub_n (((Ha.out.isN H1.out).alloc hi1 _).drewN q) (((Hb.out.isN H2.out).alloc hi2 _).drewN q) (by simp; omega) (by simp; omega) Hle.out (Nat.le_trans (chk_len H1.out) (by omega))).mono ?_
      rintro e w1 ⟨⟨v1, rfl, hv1⟩, hb1⟩
      go_wp2_with fail
      go_ret2
      have hb0 : Below w.heap.size w ((w.alloc (.cells #[.slice A a.length c, .slice B b.length d] 23)).drewN q) := below_drewN ((Below.refl _ _).alloc (Nat.le_refl _) _) q
      exact ⟨⟨_, rfl, hv1.wide hb0.size (Nat.le_refl _)⟩, below_trans' hb0 hb1⟩
  · have := nsub_bad ha hb hi1 hi2 h
    unfold sub2e sub2
    rw [if_neg h, if_neg h]
    exact this.mono fun e w' ⟨he, hw⟩ => ⟨⟨_, he, IsN.zero⟩, hw⟩

theorem nmul_l {w : World} {va vb : Value} {a b : List Nat} {lo hi lo' hi' : Nat} (ha : IsL .u32 w lo hi va a) (hb : IsL .u32 w lo' hi' vb b) (hi1 : hi ≤ w.heap.size) (hi2 : hi' ≤ w.heap.size) :
    Calls Tryd.prog 32 #[va, vb] w fun e w' => (∃ v, e = .returned (.tuple #[v, .int .i64 (op2e a b (val a * val b))]) ∧ IsN w' w.heap.size w'.heap.size v (op2 a b (val a * val b))) ∧ Below w.heap.size w w' := by
  by_cases h : fst2 (chk a) (chk b) = 0
  · obtain ⟨h1, h2⟩ := fst2_zero h
    have := nmul_ok (ha.isN h1) (hb.isN h2) hi1 hi2 (chk_len h1) (chk_len h2)
    rw [op2, op2e, if_pos h, if_pos h]
    exact this
  · have := nmul_bad ha hb hi1 hi2 h
    rw [op2, op2e, if_neg h, if_neg h]
    exact this.mono fun e w' ⟨he, hw⟩ => ⟨⟨_, he, IsN.zero⟩, hw⟩
end Go.Proofs.YtbeocfiimminiaaDoor
