/-
  The contracts of package nat's Div, parlourkit's Alike, the law's helpers is, long, awake.
-/
import Derived.Test.YtbeocfiimminiaaDoorNatC
namespace Go.Proofs.YtbeocfiimminiaaDoor
open Go.RowKit
set_option linter.unusedVariables false

set_option maxHeartbeats 400000 in
theorem ndiv_bad {w : World} {va vb : Value} {a b : List Nat} {lo hi lo' hi' : Nat} (ha : IsL .u32 w lo hi va a) (hb : IsL .u32 w lo' hi' vb b) (hi1 : hi ≤ w.heap.size) (hi2 : hi' ≤ w.heap.size) (he : fst2 (chk a) (chk b) ≠ 0) :
    Calls Tryd.prog 18 #[va, vb] w fun e w' => e = .returned (.tuple #[.slice none 0 0, .slice none 0 0, .int .i64 (fst2 (chk a) (chk b))]) ∧ Below w.heap.size w w' := by
  have Ha := Lib.hid ha
  have Hb := Lib.hid hb
  obtain ⟨A, c, rfl, _, _, _⟩ := ha
  obtain ⟨B, d, rfl, _, _, _⟩ := hb
  have hne : (fst2 (chk a) (chk b) != 0) = true := bne_iff_ne.2 he
  clear he
  go_enter Tryd.func18, Tryd.ntmps18
  go_wp2_with fail
  refine (first_two (Ha.out.alloc hi1 _) (Hb.out.alloc hi2 _) (two_new _ _ _ _).1 (two_new _ _ _ _).2).mono ?_
  rintro e w1 ⟨rfl, rfl⟩
  go_wp2_with fail
  go_ret3
  exact ⟨rfl, (Below.refl _ _).alloc (Nat.le_refl _) _⟩

set_option maxHeartbeats 400000 in
theorem ndiv_zero {w : World} {va vb : Value} {x : Nat} {lo hi lo' hi' : Nat} (ha : IsN w lo hi va x) (hb : IsN w lo' hi' vb 0) (hi1 : hi ≤ w.heap.size) (hi2 : hi' ≤ w.heap.size) (hx : (lim x).length ≤ 1024) :
    Calls Tryd.prog 18 #[va, vb] w fun e w' => e = .returned (.tuple #[.slice none 0 0, .slice none 0 0, .int .i64 6]) ∧ Below w.heap.size w w' := by
  have Ha := Lib.hid ha
  have Hb := Lib.hid hb
  have Hf : Hid (fst2 (chk (lim x)) (chk (lim 0)) = 0) := by simp [Hid, fst2, chk_lim hx, chk_lim (n := 0) (by simp [lim_zero])]
  obtain ⟨A, c, rfl, _, _, _⟩ := ha
  obtain ⟨B, d, rfl, _, _, _⟩ := hb
  have hl0 : (lim 0).length = 0 := by rw [lim_zero]; rfl
  rw [hl0] at Hb ⊢
  clear hl0
  go_enter Tryd.func18, Tryd.ntmps18
  go_wp2_with fail
  refine (first_two (Ha.out.alloc hi1 _) (Hb.out.alloc hi2 _) (two_new _ _ _ _).1 (two_new _ _ _ _).2).mono ?_
  rw [Hf.out]
  rintro e w1 ⟨rfl, rfl⟩
  go_wp2_with fail
  go_ret3
  exact ⟨rfl, (Below.refl _ _).alloc (Nat.le_refl _) _⟩

set_option maxHeartbeats 400000 in
theorem ndiv_ok {w : World} {va vb : Value} {x y : Nat} {lo hi lo' hi' : Nat} (ha : IsN w lo hi va x) (hb : IsN w lo' hi' vb y) (hi1 : hi ≤ w.heap.size) (hi2 : hi' ≤ w.heap.size) (hx : (lim x).length ≤ 1024) (hy : (lim y).length ≤ 1024) (hy0 : 0 < y) :
    Calls Tryd.prog 18 #[va, vb] w fun e w' => (∃ q r, e = .returned (.tuple #[q, r, .int .i64 0]) ∧ IsN w' w.heap.size w'.heap.size q (x / y) ∧ IsN w' w.heap.size w'.heap.size r (x % y)) ∧ Below w.heap.size w w' := by
  have Ha := Lib.hid ha
  have Hb := Lib.hid hb
  have Hf : Hid (fst2 (chk (lim x)) (chk (lim y)) = 0) := by simp [Hid, fst2, chk_lim hx, chk_lim hy]
  have hlb : 1 ≤ (lim y).length := by have := lim_nil_iff (n := y); omega
  obtain ⟨A, c, rfl, _, _, _⟩ := ha
  obtain ⟨B, d, rfl, _, _, _⟩ := hb
  go_enter Tryd.func18, Tryd.ntmps18
  go_wp2_with fail
  refine (first_two (Ha.out.alloc hi1 _) (Hb.out.alloc hi2 _) (two_new _ _ _ _).1 (two_new _ _ _ _).2).mono ?_
  rw [Hf.out]
  rintro e w1 ⟨rfl, rfl⟩
  go_wp2_with fail
  refine (div_n (Ha.out.alloc hi1 _) (Hb.out.alloc hi2 _) (by rw [World.size_alloc]; omega) (by rw [World.size_alloc]; omega) (by omega) (by omega) hy0).mono ?_
  rintro e w1 ⟨⟨q, r, rfl, hq, hr⟩, hb1⟩
  rw [World.size_alloc] at hq hr hb1
  go_wp2_with fail
  go_ret3
  exact ⟨⟨q, r, rfl, hq.wide (by omega) (Nat.le_refl _), hr.wide (by omega) (Nat.le_refl _)⟩, ((Below.refl _ w).alloc (Nat.le_refl _) _).trans (hb1.mono (by omega))⟩

theorem eq_of_getD {a b : List Nat} (hl : a.length = b.length) (h : ∀ j, j < a.length → a.getD j 0 = b.getD j 0) : a = b := by
  apply List.ext_getElem hl
  intro j h1 h2
  have := h j h1
  rw [List.getD_eq_getElem?_getD, List.getD_eq_getElem?_getD, List.getElem?_eq_getElem h1, List.getElem?_eq_getElem h2] at this
  exact this

set_option maxHeartbeats 400000 in
theorem alike_l {w : World} {va vb : Value} {a b : List Nat} {lo hi lo' hi' : Nat} (ha : IsL .u32 w lo hi va a) (hb : IsL .u32 w lo' hi' vb b) :
    Calls Tryd.prog 14 #[va, vb] w fun e w' => e = .returned (.bool (decide (a = b))) ∧ Dr w w' := by
  have hal := ha.length_le
  have hbl := hb.length_le
  unfold maxLen at hal hbl
  obtain ⟨A, c, rfl, _, _, hA⟩ := ha
  obtain ⟨B, d, rfl, _, _, hB⟩ := hb
  by_cases hl : a.length = b.length
  · have h1 : a.length ≤ b.length := by omega
    have h2 : b.length ≤ a.length := by omega
    have H := Lib.hid hl
    clear hl
    go_enter Tryd.func14, Tryd.ntmps14
    go_wp2
    go_loopw [5] (fun i wr => ∃ k : Nat, k ≤ a.length ∧ i = .int .i64 (k : Int) ∧ Dr w wr ∧ Hid (∀ j, j < k → a.getD j 0 = b.getD j 0)) (fun i _ => a.length - (intOf i).toNat)
    case atStart => exact ⟨0, Nat.zero_le _, rfl, Dr.refl _, fun j hj => by omega⟩
    case round =>
      obtain ⟨k, hk, rfl, ⟨n, rfl⟩, hall⟩ := hrel
      rcases Nat.lt_or_ge k a.length with hlt | hge
      · obtain ⟨ba, oa, rfl, _, _, hca⟩ := hA (cel_ne (j := k) hlt)
        obtain ⟨bb, ob, rfl, _, _, hcb⟩ := hB (cel_ne (j := k) (Nat.le_trans hlt h1))
        obtain ⟨x, hx, hx0, hxc⟩ := cell_at (j := k) hca hlt
        obtain ⟨y, hy, hy0, hyc⟩ := cell_at (j := k) hcb (by omega)
        clear hca hcb
        by_cases hxy : x = y
        · have hb1 : (x != y) = false := by simp [hxy]
          have Hxy := Lib.hid hxy
          clear hxy
          go_wp2
          go_quiet (fail)
          go_wp2
          go_roundw
          case rel =>
            refine ⟨k + 1, by omega, by go_num, ⟨_, rfl⟩, fun j hj => ?_⟩
            rcases Nat.lt_or_ge j k with h | h
            · exact hall.out j h
            · obtain rfl : j = k := by omega
              have := hx.out
              have := hy.out
              have := Hxy.out
              omega
          case measure => simp [intOf]; omega
        · have hb1 : (x != y) = true := bne_iff_ne.2 hxy
          have Hr : Hid (decide (a = b) = false) := by
            simp only [Hid, decide_eq_false_iff_not]
            rintro rfl
            have := hx.out
            have := hy.out
            omega
          clear hxy
          go_wp2
          go_quiet (fail)
          go_wp2
          go_ret
          exact ⟨ret_bool Hr.out.symm, ((Dr.refl w).drewN n).drewN _⟩
      · obtain rfl : k = a.length := by omega
        have Hr : Hid (decide (a = b) = true) := by
          simp only [Hid, decide_eq_true_eq]
          exact eq_of_getD H.out hall.out
        go_wp2
        go_ret
        exact ⟨ret_bool Hr.out.symm, ⟨_, rfl⟩⟩
  · have hb1 : (((a.length : Int)) != (b.length : Int)) = true := by rw [bne_iff_ne]; omega
    have Hr : Hid (decide (a = b) = false) := by
      simp only [Hid, decide_eq_false_iff_not]
      rintro rfl
      exact hl rfl
    clear hl
    go_enter Tryd.func14, Tryd.ntmps14
    go_wp2
    go_ret
    exact ⟨ret_bool Hr.out.symm, Dr.refl _⟩

theorem alike_n {w : World} {va vb : Value} {x y : Nat} {lo hi lo' hi' : Nat} (ha : IsN w lo hi va x) (hb : IsN w lo' hi' vb y) :
    Calls Tryd.prog 14 #[va, vb] w fun e w' => e = .returned (.bool (decide (x = y))) ∧ Dr w w' := by
  have h := alike_l ha hb
  have e : decide (lim x = lim y) = decide (x = y) := by
    by_cases h : x = y
    · subst h; simp
    · have : lim x ≠ lim y := fun e => h (lim_inj e)
      simp [h, this]
  rw [e] at h
  exact h

set_option maxHeartbeats 400000 in
theorem is_ok {w : World} {va vb : Value} {a b : List Nat} {lo hi lo' hi' : Nat} (ha : IsL .u32 w lo hi va a) (hb : IsL .u32 w lo' hi' vb b) :
    Calls Tryd.prog 26 #[va, .int .i64 0, vb] w fun e w' => e = .returned (.bool (decide (a = b))) ∧ Dr w w' := by
  have Ha := Lib.hid ha
  have Hb := Lib.hid hb
  obtain ⟨A, c, rfl, _, _, _⟩ := ha
  obtain ⟨B, d, rfl, _, _, _⟩ := hb
  go_enter Tryd.func26, Tryd.ntmps26
  go_wp2_with fail
  refine (alike_l Ha.out Hb.out).mono ?_
  generalize hq : decide (a = b) = q
  have Hq := Lib.hid hq
  clear hq
  rintro e w1 ⟨rfl, n, rfl⟩
  go_wp2_with fail
  go_ret
  exact ⟨ret_bool Hq.out.symm, _, rfl⟩

/-- What the law's helper 'long' answers. -/
def lng (l m : Nat) : Bool := decide (m < l) && decide (l ≤ 1024) || decide (1100 < l)
set_option maxHeartbeats 400000 in
theorem long_l {w : World} {va : Value} {l : List Nat} {lo hi : Nat} (m : Nat) (ha : IsL .u32 w lo hi va l) :
    Calls Tryd.prog 8 #[va, .int .i64 (m : Int)] w fun e w' => e = .returned (.bool (lng l.length m)) ∧ w = w' := by
  obtain ⟨A, c, rfl, _, _, hA⟩ := ha
  generalize l.length = n
  rcases Nat.lt_or_ge m n with h1 | h1
  · rcases Nat.lt_or_ge 1024 n with h2 | h2
    · rcases Nat.lt_or_ge 1100 n with h3 | h3
      · have H : Hid (lng n m = true) := by simp [Hid, lng]; omega
        go_enter Tryd.func8, Tryd.ntmps8
        go_wp2
        go_ret
        exact ⟨ret_bool (by first | exact H.out.symm | (rw [H.out]; simp; omega)), rfl⟩
      · have H : Hid (lng n m = false) := by simp [Hid, lng]; omega
        go_enter Tryd.func8, Tryd.ntmps8
        go_wp2
        go_ret
        exact ⟨ret_bool (by first | exact H.out.symm | (rw [H.out]; simp; omega)), rfl⟩
    · have H : Hid (lng n m = true) := by simp [Hid, lng]; omega
      go_enter Tryd.func8, Tryd.ntmps8
      go_wp2
      go_ret
      exact ⟨ret_bool (by first | exact H.out.symm | (rw [H.out]; simp; omega)), rfl⟩
  · rcases Nat.lt_or_ge 1100 n with h3 | h3
    · have H : Hid (lng n m = true) := by simp [Hid, lng]; omega
      go_enter Tryd.func8, Tryd.ntmps8
      go_wp2
      go_ret
      exact ⟨ret_bool (by first | exact H.out.symm | (rw [H.out]; simp; omega)), rfl⟩
    · have H : Hid (lng n m = false) := by simp [Hid, lng]; omega
      go_enter Tryd.func8, Tryd.ntmps8
      go_wp2
      go_ret
      exact ⟨ret_bool (by first | exact H.out.symm | (rw [H.out]; simp; omega)), rfl⟩
end Go.Proofs.YtbeocfiimminiaaDoor
