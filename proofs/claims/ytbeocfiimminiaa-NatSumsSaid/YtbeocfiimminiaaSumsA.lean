/-
  The reference's and the program's Add (reference only), Sub, Mul at any two lists.
-/
import Derived.Test.YtbeocfiimminiaaRefM
namespace Go.Proofs.Ytbeocfiimminiaa
open Go.RowKit
set_option linter.unusedVariables false

/-- What a bounded operation on two lists gives, and its error. -/
def op2 (a b : List Nat) (n : Nat) : Nat := if fst2 (chk a) (chk b) = 0 then fitv n else 0
def op2e (a b : List Nat) (n : Nat) : Int := if fst2 (chk a) (chk b) = 0 then fite n else fst2 (chk a) (chk b)
/-- The same of a difference. -/
def sub2 (a b : List Nat) : Nat := if fst2 (chk a) (chk b) = 0 then val a - val b else 0
def sub2e (a b : List Nat) : Int := if fst2 (chk a) (chk b) = 0 then (if val a < val b then 2 else 0) else fst2 (chk a) (chk b)

theorem ret_v {v : Value} {a b : Int} (h : a = b) : Ending.returned (.tuple #[v, .int .i64 a]) = .returned (.tuple #[v, .int .i64 b]) := by rw [h]
theorem below_trans' {w w1 w2 : World} (h : Below w.heap.size w w1) (hb : Below w1.heap.size w1 w2) : Below w.heap.size w w2 := h.trans (hb.mono h.size)

set_option maxHeartbeats 1000000 in
theorem radd_l {w : World} {va vb : Value} {a b : List Nat} {lo hi lo' hi' : Nat} (ha : IsL .u32 w lo hi va a) (hb : IsL .u32 w lo' hi' vb b) (hi1 : hi ≤ w.heap.size) (hi2 : hi' ≤ w.heap.size) :
    Calls Try.prog 20 #[va, vb] w fun e w' => (∃ v, e = .returned (.tuple #[v, .int .i64 (op2e a b (val a + val b))]) ∧ IsN w' w.heap.size w'.heap.size v (op2 a b (val a + val b))) ∧ Below w.heap.size w w' := by
  have Ha := Lib.hid ha
  have Hb := Lib.hid hb
  obtain ⟨A, c, rfl, _, _, _⟩ := ha
  obtain ⟨B, d, rfl, _, _, _⟩ := hb
  by_cases h : fst2 (chk a) (chk b) = 0
  · obtain ⟨h1, h2⟩ := fst2_zero h
    have Hh := Lib.hid h
    have H1 := Lib.hid h1
    have H2 := Lib.hid h2
    rw [show op2e a b (val a + val b) = fite (val a + val b) from by unfold op2e; rw [if_pos h], show op2 a b (val a + val b) = fitv (val a + val b) from by unfold op2; rw [if_pos h]]
    clear h h1 h2
    go_enter Try.func20, Try.ntmps20
    go_wp2_with fail
    refine (rboth_l Ha.out Hb.out).mono ?_
    rw [Hh.out]
    rintro e w1 ⟨rfl, rfl⟩
    go_wp2_with fail
    refine (rplus_n (Ha.out.isN H1.out) (Hb.out.isN H2.out) hi1 hi2 (Nat.le_trans (chk_len H1.out) (by omega)) (Nat.le_trans (chk_len H2.out) (by omega))).mono ?_
    rintro e w1 ⟨⟨v1, rfl, hv1⟩, hb1⟩
    go_wp2_with fail
    refine (rfits_n hv1 (Nat.le_refl _)).mono ?_
    rintro e w2 ⟨⟨v2, rfl, hv2⟩, hb2⟩
    go_wp2_with fail
    go_ret2
    exact ⟨⟨_, rfl, hv2.wide hb1.size (Nat.le_refl _)⟩, below_trans' hb1 hb2⟩
  · have Hr : Hid (op2 a b (val a + val b) = 0) := by unfold Hid op2; rw [if_neg h]
    have He : Hid (op2e a b (val a + val b) = fst2 (chk a) (chk b)) := by unfold Hid op2e; rw [if_neg h]
    rw [Hr.out, He.out]
    clear Hr He
    generalize hx : fst2 (chk a) (chk b) = x at *
    have Hx := Lib.hid hx
    have hne : (x != 0) = true := bne_iff_ne.2 h
    clear h hx
    go_enter Try.func20, Try.ntmps20
    go_wp2_with fail
    refine (rboth_l Ha.out Hb.out).mono ?_
    rw [Hx.out]
    rintro e w1 ⟨rfl, rfl⟩
    go_wp2_with fail
    go_ret2
    exact ⟨⟨_, rfl, IsN.zero⟩, Below.refl _ _⟩

set_option maxHeartbeats 1000000 in
theorem rmul_l {w : World} {va vb : Value} {a b : List Nat} {lo hi lo' hi' : Nat} (ha : IsL .u32 w lo hi va a) (hb : IsL .u32 w lo' hi' vb b) (hi1 : hi ≤ w.heap.size) (hi2 : hi' ≤ w.heap.size) :
    Calls Try.prog 24 #[va, vb] w fun e w' => (∃ v, e = .returned (.tuple #[v, .int .i64 (op2e a b (val a * val b))]) ∧ IsN w' w.heap.size w'.heap.size v (op2 a b (val a * val b))) ∧ Below w.heap.size w w' := by
  have Ha := Lib.hid ha
  have Hb := Lib.hid hb
  obtain ⟨A, c, rfl, _, _, _⟩ := ha
  obtain ⟨B, d, rfl, _, _, _⟩ := hb
  by_cases h : fst2 (chk a) (chk b) = 0
  · obtain ⟨h1, h2⟩ := fst2_zero h
    have Hh := Lib.hid h
    have H1 := Lib.hid h1
    have H2 := Lib.hid h2
    rw [show op2e a b (val a * val b) = fite (val a * val b) from by unfold op2e; rw [if_pos h], show op2 a b (val a * val b) = fitv (val a * val b) from by unfold op2; rw [if_pos h]]
    clear h h1 h2
    go_enter Try.func24, Try.ntmps24
    go_wp2_with fail
    refine (rboth_l Ha.out Hb.out).mono ?_
    rw [Hh.out]
    rintro e w1 ⟨rfl, rfl⟩
    go_wp2_with fail
    refine (rtimes_n (Ha.out.isN H1.out) (Hb.out.isN H2.out) hi1 hi2 (Nat.le_trans (chk_len H1.out) (by omega)) (Nat.le_trans (chk_len H2.out) (by omega))).mono ?_
    rintro e w1 ⟨⟨v1, rfl, hv1⟩, hb1⟩
    go_wp2_with fail
    refine (rfits_n hv1 (Nat.le_refl _)).mono ?_
    rintro e w2 ⟨⟨v2, rfl, hv2⟩, hb2⟩
    go_wp2_with fail
    go_ret2
    exact ⟨⟨_, rfl, hv2.wide hb1.size (Nat.le_refl _)⟩, below_trans' hb1 hb2⟩
  · have Hr : Hid (op2 a b (val a * val b) = 0) := by unfold Hid op2; rw [if_neg h]
    have He : Hid (op2e a b (val a * val b) = fst2 (chk a) (chk b)) := by unfold Hid op2e; rw [if_neg h]
    rw [Hr.out, He.out]
    clear Hr He
    generalize hx : fst2 (chk a) (chk b) = x at *
    have Hx := Lib.hid hx
    have hne : (x != 0) = true := bne_iff_ne.2 h
    clear h hx
    go_enter Try.func24, Try.ntmps24
    go_wp2_with fail
    refine (rboth_l Ha.out Hb.out).mono ?_
    rw [Hx.out]
    rintro e w1 ⟨rfl, rfl⟩
    go_wp2_with fail
    go_ret2
    exact ⟨⟨_, rfl, IsN.zero⟩, Below.refl _ _⟩

set_option maxHeartbeats 1000000 in
theorem rsub_l {w : World} {va vb : Value} {a b : List Nat} {lo hi lo' hi' : Nat} (ha : IsL .u32 w lo hi va a) (hb : IsL .u32 w lo' hi' vb b) (hi1 : hi ≤ w.heap.size) (hi2 : hi' ≤ w.heap.size) :
    Calls Try.prog 22 #[va, vb] w fun e w' => (∃ v, e = .returned (.tuple #[v, .int .i64 (sub2e a b)]) ∧ IsN w' w.heap.size w'.heap.size v (sub2 a b)) ∧ Below w.heap.size w w' := by
  have Ha := Lib.hid ha
  have Hb := Lib.hid hb
  obtain ⟨A, c, rfl, _, _, _⟩ := ha
  obtain ⟨B, d, rfl, _, _, _⟩ := hb
  by_cases h : fst2 (chk a) (chk b) = 0
  · obtain ⟨h1, h2⟩ := fst2_zero h
    have Hh := Lib.hid h
    have H1 := Lib.hid h1
    have H2 := Lib.hid h2
    by_cases hlt : val a < val b
    · rw [show sub2e a b = 2 from by unfold sub2e; rw [if_pos h, if_pos hlt], show sub2 a b = 0 from by unfold sub2; rw [if_pos h]; omega]
      have Hs := Lib.hid (sgn_lt hlt)
      clear h h1 h2 hlt
      go_enter Try.func22, Try.ntmps22
      go_wp2_with fail
      refine (rboth_l Ha.out Hb.out).mono ?_
      rw [Hh.out]
      rintro e w1 ⟨rfl, rfl⟩
      go_wp2_with fail
      refine (rorder_n (Ha.out.isN H1.out) (Hb.out.isN H2.out)).mono ?_
      rw [Hs.out]
      rintro e w1 ⟨rfl, q, rfl⟩
      go_wp2_with fail
      go_ret2
      exact ⟨⟨_, rfl, IsN.zero⟩, below_drewN (Below.refl _ _) q⟩
    · rw [show sub2e a b = fite (val a - val b) from by unfold sub2e; rw [if_pos h, if_neg hlt, fite_le (Nat.le_trans (lim_len_mono (Nat.sub_le _ _)) (chk_len h1))], show sub2 a b = fitv (val a - val b) from by unfold sub2; rw [if_pos h, fitv_le (Nat.le_trans (lim_len_mono (Nat.sub_le _ _)) (chk_len h1))]]
      have hs : 0 ≤ sgn (val a) (val b) := by unfold sgn; rw [if_neg hlt]; split <;> omega
      generalize hsg : sgn (val a) (val b) = s at *
      have Hs := Lib.hid hsg
      have Hle : Hid (val b ≤ val a) := Nat.le_of_not_lt hlt
      clear h h1 h2 hlt hsg
      go_enter Try.func22, Try.ntmps22
      go_wp2_with fail
      refine (rboth_l Ha.out Hb.out).mono ?_
      rw [Hh.out]
      rintro e w1 ⟨rfl, rfl⟩
      go_wp2_with fail
      refine (rorder_n (Ha.out.isN H1.out) (Hb.out.isN H2.out)).mono ?_
      rw [Hs.out]
      rintro e w1 ⟨rfl, q, rfl⟩
      go_wp2_with fail
      refine (rminus_n ((Ha.out.isN H1.out).drewN q) ((Hb.out.isN H2.out).drewN q) hi1 hi2 Hle.out (Nat.le_trans (chk_len H1.out) (by omega))).mono ?_
      rintro e w1 ⟨⟨v1, rfl, hv1⟩, hb1⟩
      go_wp2_with fail
      refine (rfits_n hv1 (Nat.le_refl _)).mono ?_
      rintro e w2 ⟨⟨v2, rfl, hv2⟩, hb2⟩
      go_wp2_with fail
      go_ret2
      exact ⟨⟨_, rfl, hv2.wide hb1.size (Nat.le_refl _)⟩, (below_drewN (Below.refl _ w) q).trans (below_trans' hb1 hb2)⟩
  · have Hr : Hid (sub2 a b = 0) := by unfold Hid sub2; rw [if_neg h]
    have He : Hid (sub2e a b = fst2 (chk a) (chk b)) := by unfold Hid sub2e; rw [if_neg h]
    rw [Hr.out, He.out]
    clear Hr He
    generalize hx : fst2 (chk a) (chk b) = x at *
    have Hx := Lib.hid hx
    have hne : (x != 0) = true := bne_iff_ne.2 h
    clear h hx
    go_enter Try.func22, Try.ntmps22
    go_wp2_with fail
    refine (rboth_l Ha.out Hb.out).mono ?_
    rw [Hx.out]
    rintro e w1 ⟨rfl, rfl⟩
    go_wp2_with fail
    go_ret2
    exact ⟨⟨_, rfl, IsN.zero⟩, Below.refl _ _⟩

set_option maxHeartbeats 400000 in
theorem nsub_bad {w : World} {va vb : Value} {a b : List Nat} {lo hi lo' hi' : Nat} (ha : IsL .u32 w lo hi va a) (hb : IsL .u32 w lo' hi' vb b) (hi1 : hi ≤ w.heap.size) (hi2 : hi' ≤ w.heap.size) (he : fst2 (chk a) (chk b) ≠ 0) :
    Calls Try.prog 21 #[va, vb] w fun e w' => e = .returned (.tuple #[.slice none 0 0, .int .i64 (fst2 (chk a) (chk b))]) ∧ Below w.heap.size w w' := by
  have Ha := Lib.hid ha
  have Hb := Lib.hid hb
  obtain ⟨A, c, rfl, _, _, _⟩ := ha
  obtain ⟨B, d, rfl, _, _, _⟩ := hb
  have hne : (fst2 (chk a) (chk b) != 0) = true := bne_iff_ne.2 he
  clear he
  go_enter Try.func21, Try.ntmps21
  go_wp2_with fail
  refine (first_two (Ha.out.alloc hi1 _) (Hb.out.alloc hi2 _) (two_new _ _ _ _).1 (two_new _ _ _ _).2).mono ?_
  rintro e w1 ⟨rfl, rfl⟩
  go_wp2_with fail
  go_ret2
  exact ⟨rfl, (Below.refl _ _).alloc (Nat.le_refl _) _⟩

set_option maxHeartbeats 400000 in
theorem nmul_bad {w : World} {va vb : Value} {a b : List Nat} {lo hi lo' hi' : Nat} (ha : IsL .u32 w lo hi va a) (hb : IsL .u32 w lo' hi' vb b) (hi1 : hi ≤ w.heap.size) (hi2 : hi' ≤ w.heap.size) (he : fst2 (chk a) (chk b) ≠ 0) :
    Calls Try.prog 23 #[va, vb] w fun e w' => e = .returned (.tuple #[.slice none 0 0, .int .i64 (fst2 (chk a) (chk b))]) ∧ Below w.heap.size w w' := by
  have Ha := Lib.hid ha
  have Hb := Lib.hid hb
  obtain ⟨A, c, rfl, _, _, _⟩ := ha
  obtain ⟨B, d, rfl, _, _, _⟩ := hb
  have hne : (fst2 (chk a) (chk b) != 0) = true := bne_iff_ne.2 he
  clear he
  go_enter Try.func23, Try.ntmps23
  go_wp2_with fail
  refine (first_two (Ha.out.alloc hi1 _) (Hb.out.alloc hi2 _) (two_new _ _ _ _).1 (two_new _ _ _ _).2).mono ?_
  rintro e w1 ⟨rfl, rfl⟩
  go_wp2_with fail
  go_ret2
  exact ⟨rfl, (Below.refl _ _).alloc (Nat.le_refl _) _⟩

set_option maxHeartbeats 1000000 in
theorem nsub_l {w : World} {va vb : Value} {a b : List Nat} {lo hi lo' hi' : Nat} (ha : IsL .u32 w lo hi va a) (hb : IsL .u32 w lo' hi' vb b) (hi1 : hi ≤ w.heap.size) (hi2 : hi' ≤ w.heap.size) :
    Calls Try.prog 21 #[va, vb] w fun e w' => (∃ v, e = .returned (.tuple #[v, .int .i64 (sub2e a b)]) ∧ IsN w' w.heap.size w'.heap.size v (sub2 a b)) ∧ Below w.heap.size w w' := by
  by_cases h : fst2 (chk a) (chk b) = 0
  · have Ha := Lib.hid ha
    have Hb := Lib.hid hb
    obtain ⟨A, c, rfl, _, _, _⟩ := ha
    obtain ⟨B, d, rfl, _, _, _⟩ := hb
    obtain ⟨h1, h2⟩ := fst2_zero h
    have Hh := Lib.hid h
    have H1 := Lib.hid h1
    have H2 := Lib.hid h2
    by_cases hlt : val a < val b
    · rw [show sub2e a b = 2 from by unfold sub2e; rw [if_pos h, if_pos hlt], show sub2 a b = 0 from by unfold sub2; rw [if_pos h]; omega]
      have Hs := Lib.hid (sgn_lt hlt)
      clear h h1 h2 hlt
      go_enter Try.func21, Try.ntmps21
      go_wp2_with fail
      refine (first_two (Ha.out.alloc hi1 _) (Hb.out.alloc hi2 _) (two_new _ _ _ _).1 (two_new _ _ _ _).2).mono ?_
      rw [Hh.out]
      rintro e w1 ⟨rfl, rfl⟩
      go_wp2_with fail
      refine (cmp_n ((Ha.out.isN H1.out).alloc hi1 _) ((Hb.out.isN H2.out).alloc hi2 _)).mono ?_
      rw [Hs.out]
      rintro e w1 ⟨rfl, q, rfl⟩
      go_wp2_with fail
      go_ret2
      exact ⟨⟨_, rfl, IsN.zero⟩, below_drewN ((Below.refl _ _).alloc (Nat.le_refl _) _) q⟩
    · rw [show sub2e a b = 0 from by unfold sub2e; rw [if_pos h, if_neg hlt], show sub2 a b = val a - val b from by unfold sub2; rw [if_pos h]]
      have hs : 0 ≤ sgn (val a) (val b) := by unfold sgn; rw [if_neg hlt]; split <;> omega
      generalize hsg : sgn (val a) (val b) = s at *
      have Hs := Lib.hid hsg
      have Hle : Hid (val b ≤ val a) := Nat.le_of_not_lt hlt
      clear h h1 h2 hlt hsg
      go_enter Try.func21, Try.ntmps21
      go_wp2_with fail
      refine (first_two (Ha.out.alloc hi1 _) (Hb.out.alloc hi2 _) (two_new _ _ _ _).1 (two_new _ _ _ _).2).mono ?_
      rw [Hh.out]
      rintro e w1 ⟨rfl, rfl⟩
      go_wp2_with fail
      refine (cmp_n ((Ha.out.isN H1.out).alloc hi1 _) ((Hb.out.isN H2.out).alloc hi2 _)).mono ?_
      rw [Hs.out]
      rintro e w1 ⟨rfl, q, rfl⟩
      go_wp2_with fail
      refine (sub_n (((Ha.out.isN H1.out).alloc hi1 _).drewN q) (((Hb.out.isN H2.out).alloc hi2 _).drewN q) (by simp; omega) (by simp; omega) Hle.out (Nat.le_trans (chk_len H1.out) (by omega))).mono ?_
      rintro e w1 ⟨⟨v1, rfl, hv1⟩, hb1⟩
      go_wp2_with fail
      go_ret2
      have hb0 : Below w.heap.size w ((w.alloc (.cells #[.slice A a.length c, .slice B b.length d] 23)).drewN q) := below_drewN ((Below.refl _ _).alloc (Nat.le_refl _) _) q
      exact ⟨⟨_, rfl, hv1.wide hb0.size (Nat.le_refl _)⟩, below_trans' hb0 hb1⟩
  · have := nsub_bad ha hb hi1 hi2 h
    unfold sub2e sub2
    rw [if_neg h, if_neg h]
    exact this.mono fun e w' ⟨he, hw⟩ => ⟨⟨_, he, IsN.zero⟩, hw⟩

theorem nmul_l {w : World} {va vb : Value} {a b : List Nat} {lo hi lo' hi' : Nat} (ha : IsL .u32 w lo hi va a) (hb : IsL .u32 w lo' hi' vb b) (hi1 : hi ≤ w.heap.size) (hi2 : hi' ≤ w.heap.size) :
    Calls Try.prog 23 #[va, vb] w fun e w' => (∃ v, e = .returned (.tuple #[v, .int .i64 (op2e a b (val a * val b))]) ∧ IsN w' w.heap.size w'.heap.size v (op2 a b (val a * val b))) ∧ Below w.heap.size w w' := by
  by_cases h : fst2 (chk a) (chk b) = 0
  · obtain ⟨h1, h2⟩ := fst2_zero h
    have := nmul_ok (ha.isN h1) (hb.isN h2) hi1 hi2 (chk_len h1) (chk_len h2)
    rw [op2, op2e, if_pos h, if_pos h]
    exact this
  · have := nmul_bad ha hb hi1 hi2 h
    rw [op2, op2e, if_neg h, if_neg h]
    exact this.mono fun e w' ⟨he, hw⟩ => ⟨⟨_, he, IsN.zero⟩, hw⟩
end Go.Proofs.Ytbeocfiimminiaa
