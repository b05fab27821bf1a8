/-
  The contracts of package nat's Gcd and Lcm, and of its Div at any two lists.
-/
import Derived.Test.YtbeocfiimminiaaDoorLGcd
import Derived.Test.YtbeocfiimminiaaDoorFit
import Derived.Test.YtbeocfiimminiaaDoorNatD
namespace Go.Proofs.YtbeocfiimminiaaDoor
open Go.RowKit
set_option linter.unusedVariables false

/-- What Gcd and Lcm of two lists give. -/
def gcd2 (a b : List Nat) : Nat := if fst2 (chk a) (chk b) = 0 then Nat.gcd (val a) (val b) else 0
def lcmN (x y : Nat) : Nat := x / Nat.gcd x y * y
theorem lcmN_zero {x y : Nat} (h : x = 0 ∨ y = 0) : lcmN x y = 0 := by
  unfold lcmN
  rcases h with h | h
  · rw [h, Nat.zero_div, Nat.zero_mul]
  · rw [h, Nat.mul_zero]
/-- What Div of two lists gives. -/
def div2e (a b : List Nat) : Int := if fst2 (chk a) (chk b) = 0 then (if val b = 0 then 6 else 0) else fst2 (chk a) (chk b)
def div2q (a b : List Nat) : Nat := if fst2 (chk a) (chk b) = 0 then val a / val b else 0
def div2r (a b : List Nat) : Nat := if fst2 (chk a) (chk b) = 0 then (if val b = 0 then 0 else val a % val b) else 0

theorem gcd_len {x y k : Nat} (hx : (lim x).length ≤ k) (hy : (lim y).length ≤ k) : (lim (Nat.gcd x y)).length ≤ k := by
  rcases Nat.eq_zero_or_pos x with h | h
  · rw [h, Nat.gcd_zero_left]; exact hy
  · exact Nat.le_trans (lim_len_mono (Nat.le_of_dvd h (Nat.gcd_dvd_left x y))) hx

set_option maxHeartbeats 400000 in
theorem ngcd_l {w : World} {va vb : Value} {a b : List Nat} (ha : IsL .u32 w 0 w.heap.size va a) (hb : IsL .u32 w 0 w.heap.size vb b) (hB : Bru w) :
    Calls Tryd.prog 20 #[va, vb] w fun e w' => (∃ v, e = .returned (.tuple #[v, .int .i64 (fst2 (chk a) (chk b))]) ∧ IsN w' w.heap.size w'.heap.size v (gcd2 a b)) ∧ Below w.heap.size w w' := by
  have Ha := Lib.hid ha
  have Hb := Lib.hid hb
  have HB := Lib.hid hB
  clear hB
  obtain ⟨A, c, rfl, _, _, _⟩ := ha
  obtain ⟨B, d, rfl, _, _, _⟩ := hb
  by_cases h : fst2 (chk a) (chk b) = 0
  · obtain ⟨h1, h2⟩ := fst2_zero h
    rw [show gcd2 a b = Nat.gcd (val a) (val b) from by unfold gcd2; rw [if_pos h], h]
    have Hh := Lib.hid h
    have H1 := Lib.hid h1
    have H2 := Lib.hid h2
    have hba : Below w.heap.size w (w.alloc (.cells #[.slice A a.length c, .slice B b.length d] 23)) := (Below.refl _ w).alloc (Nat.le_refl _) _
    have HN1 := Lib.hid ((Ha.out.isN H1.out).up hba)
    have HN2 := Lib.hid ((Hb.out.isN H2.out).up hba)
    have HB1 := Lib.hid (HB.out.below hba)
    clear h h1 h2
    go_enter Tryd.func20, Tryd.ntmps20
    go_wp2_with fail
    refine (first_two (Ha.out.alloc (Nat.le_refl _) _) (Hb.out.alloc (Nat.le_refl _) _) (two_new _ _ _ _).1 (two_new _ _ _ _).2).mono ?_
    rw [Hh.out]
    rintro e w1 ⟨rfl, rfl⟩
    go_wp2_with fail
    refine (gcd_n HN1.out HN2.out HB1.out (Nat.le_trans (chk_len H1.out) (by omega)) (Nat.le_trans (chk_len H2.out) (by omega))).mono ?_
    rintro e w1 ⟨⟨v, rfl, hv⟩, hb1⟩
    go_wp2_with fail
    go_ret2
    exact ⟨⟨_, rfl, hv.wide hba.size (Nat.le_refl _)⟩, hba.trans (hb1.mono hba.size)⟩
  · have hne : (fst2 (chk a) (chk b) != 0) = true := bne_iff_ne.2 h
    rw [show gcd2 a b = 0 from by unfold gcd2; rw [if_neg h]]
    clear h
    go_enter Tryd.func20, Tryd.ntmps20
    go_wp2_with fail
    refine (first_two (Ha.out.alloc (Nat.le_refl _) _) (Hb.out.alloc (Nat.le_refl _) _) (two_new _ _ _ _).1 (two_new _ _ _ _).2).mono ?_
    rintro e w1 ⟨rfl, rfl⟩
    go_wp2_with fail
    go_ret2
    exact ⟨⟨_, rfl, IsN.zero⟩, (Below.refl _ _).alloc (Nat.le_refl _) _⟩

set_option maxHeartbeats 1000000 in
theorem nlcm_l {w : World} {va vb : Value} {a b : List Nat} (ha : IsL .u32 w 0 w.heap.size va a) (hb : IsL .u32 w 0 w.heap.size vb b) (hB : Bru w) :
    Calls Tryd.prog 22 #[va, vb] w fun e w' => (∃ v, e = .returned (.tuple #[v, .int .i64 (op2e a b (lcmN (val a) (val b)))]) ∧ IsN w' w.heap.size w'.heap.size v (op2 a b (lcmN (val a) (val b)))) ∧ Below w.heap.size w w' := by
  have Ha := Lib.hid ha
  have Hb := Lib.hid hb
  have HB := Lib.hid hB
  clear hB
  obtain ⟨A, c, rfl, _, _, _⟩ := ha
  obtain ⟨B, d, rfl, _, _, _⟩ := hb
  by_cases h : fst2 (chk a) (chk b) = 0
  · obtain ⟨h1, h2⟩ := fst2_zero h
    rw [show op2e a b (lcmN (val a) (val b)) = fite (lcmN (val a) (val b)) from by unfold op2e; rw [if_pos h], show op2 a b (lcmN (val a) (val b)) = fitv (lcmN (val a) (val b)) from by unfold op2; rw [if_pos h]]
    have Hh := Lib.hid h
    have H1 := Lib.hid h1
    have H2 := Lib.hid h2
    have hba : Below w.heap.size w (w.alloc (.cells #[.slice A a.length c, .slice B b.length d] 23)) := (Below.refl _ w).alloc (Nat.le_refl _) _
    have HN1 := Lib.hid ((Ha.out.isN H1.out).up hba)
    have HN2 := Lib.hid ((Hb.out.isN H2.out).up hba)
    have HB1 := Lib.hid (HB.out.below hba)
    have Hbw := Lib.hid hba
    have ea := Lib.hid (chk_ok h1).2.2
    have eb := Lib.hid (chk_ok h2).2.2
    clear h h1 h2 hba
    have hza : a.length = 0 → val a = 0 := fun h => by rw [List.eq_nil_of_length_eq_zero h]; rfl
    have hzb : b.length = 0 → val b = 0 := fun h => by rw [List.eq_nil_of_length_eq_zero h]; rfl
    have Hza := Lib.hid hza
    have Hzb := Lib.hid hzb
    clear hza hzb
    rcases Nat.eq_zero_or_pos a.length with ha0 | ha0
    · have hz : Hid (lcmN (val a) (val b) = 0) := lcmN_zero (.inl (Hza.out ha0))
      rw [hz.out, fite_le (by rw [lim_zero]; decide), fitv_le (by rw [lim_zero]; decide)]
      have hb0 : ((a.length : Int) == 0) = true := by rw [ha0]; rfl
      clear ha0
      go_enter Tryd.func22, Tryd.ntmps22
      go_wp2_with fail
      refine (first_two (Ha.out.alloc (Nat.le_refl _) _) (Hb.out.alloc (Nat.le_refl _) _) (two_new _ _ _ _).1 (two_new _ _ _ _).2).mono ?_
      rw [Hh.out]
      rintro e w1 ⟨rfl, rfl⟩
      go_wp2_with fail
      go_ret2
      exact ⟨⟨_, rfl, IsN.zero⟩, Hbw.out⟩
    · have hn0 : ((a.length : Int) == 0) = false := beq_eq_false_iff_ne.2 (by omega)
      rcases Nat.eq_zero_or_pos b.length with hb0 | hb0
      · have hz : Hid (lcmN (val a) (val b) = 0) := lcmN_zero (.inr (Hzb.out hb0))
        rw [hz.out, fite_le (by rw [lim_zero]; decide), fitv_le (by rw [lim_zero]; decide)]
        have hb1 : ((b.length : Int) == 0) = true := by rw [hb0]; rfl
        clear hb0
        go_enter Tryd.func22, Tryd.ntmps22
        go_wp2_with fail
        refine (first_two (Ha.out.alloc (Nat.le_refl _) _) (Hb.out.alloc (Nat.le_refl _) _) (two_new _ _ _ _).1 (two_new _ _ _ _).2).mono ?_
        rw [Hh.out]
        rintro e w1 ⟨rfl, rfl⟩
        go_wp2_with fail
        go_ret2
        exact ⟨⟨_, rfl, IsN.zero⟩, Hbw.out⟩
      · have hn1 : ((b.length : Int) == 0) = false := beq_eq_false_iff_ne.2 (by omega)
        have hgp : 0 < Nat.gcd (val a) (val b) := by
          apply Nat.gcd_pos_of_pos_left
          rcases Nat.eq_zero_or_pos (val a) with h | h
          · have := ea.out
            rw [h, lim_zero] at this
            rw [this] at ha0
            simp at ha0
          · exact h
        have Hgp := Lib.hid hgp
        have HL1 : Hid ((lim (val a)).length ≤ 1024) := chk_len H1.out
        have HL2 : Hid ((lim (val b)).length ≤ 1024) := chk_len H2.out
        have hqb : Hid ((lim (val a / Nat.gcd (val a) (val b))).length ≤ 1024) := Nat.le_trans (lim_len_mono (Nat.div_le_self _ _)) HL1.out
        clear hgp
        go_enter Tryd.func22, Tryd.ntmps22
        go_wp2_with fail
        refine (first_two (Ha.out.alloc (Nat.le_refl _) _) (Hb.out.alloc (Nat.le_refl _) _) (two_new _ _ _ _).1 (two_new _ _ _ _).2).mono ?_
        rw [Hh.out]
        rintro e w1 ⟨rfl, rfl⟩
        go_wp2_with fail
        refine (gcd_n HN1.out HN2.out HB1.out (Nat.le_trans HL1.out (by omega)) (Nat.le_trans HL2.out (by omega))).mono ?_
        rintro e w2 ⟨⟨v, rfl, hv⟩, hb1⟩
        have HA2 := Lib.hid (HN1.out.up hb1)
        have HB2 := Lib.hid (HN2.out.up hb1)
        have Hv := Lib.hid (hv.wide (lo' := 0) (Nat.zero_le _) (Nat.le_refl _))
        have Hb2 := Lib.hid (below_two Hbw.out (hb1.mono (Nat.le_refl _)))
        clear hv hb1
        go_wp2_with fail
        refine (div_n HA2.out Hv.out (Nat.le_refl _) (Nat.le_refl _) (Nat.le_trans HL1.out (by omega)) (Nat.le_trans (gcd_len HL1.out HL2.out) (by omega)) Hgp.out).mono ?_
        rintro e w3 ⟨⟨vq, vr, rfl, hq, _⟩, hb3⟩
        have Hq := Lib.hid (hq.wide (lo' := 0) (Nat.zero_le _) (Nat.le_refl _))
        have HB3 := Lib.hid (HB2.out.up hb3)
        have Hb3 := Lib.hid (below_two Hb2.out hb3)
        clear hq hb3
        go_wp2_with fail
        refine (mul_n Hq.out HB3.out (Nat.le_refl _) (Nat.le_refl _) (by have := hqb.out; omega) (by have := HL2.out; omega)).mono ?_
        rintro e w4 ⟨⟨vm, rfl, hm⟩, hb4⟩
        have Hm := Lib.hid (hm.wide (lo' := w.heap.size) Hb3.out.size (Nat.le_refl _))
        have Hb4 := Lib.hid (below_two Hb3.out hb4)
        clear hm hb4
        go_wp2_with fail
        refine (bounded_n Hm.out).mono ?_
        rintro e w5 ⟨rfl, rfl⟩
        by_cases hle : (lim (val a / Nat.gcd (val a) (val b) * val b)).length ≤ 1024
        · simp only [if_pos hle]
          have Hle := Lib.hid hle
          clear hle
          go_wp2_with fail
          go_ret2
          exact ⟨⟨_, ret_v (fite_le Hle.out).symm, by unfold lcmN; rw [fitv_le Hle.out]; exact Hm.out⟩, Hb4.out⟩
        · simp only [if_neg hle]
          have Hle := Lib.hid hle
          clear hle
          go_wp2_with fail
          go_ret2
          exact ⟨⟨_, ret_v (fite_gt Hle.out).symm, by unfold lcmN; rw [fitv_gt Hle.out]; exact IsN.zero⟩, Hb4.out⟩
  · have hne : (fst2 (chk a) (chk b) != 0) = true := bne_iff_ne.2 h
    rw [show op2e a b (lcmN (val a) (val b)) = fst2 (chk a) (chk b) from by unfold op2e; rw [if_neg h], show op2 a b (lcmN (val a) (val b)) = 0 from by unfold op2; rw [if_neg h]]
    clear h
    go_enter Tryd.func22, Tryd.ntmps22
    go_wp2_with fail
    refine (first_two (Ha.out.alloc (Nat.le_refl _) _) (Hb.out.alloc (Nat.le_refl _) _) (two_new _ _ _ _).1 (two_new _ _ _ _).2).mono ?_
    rintro e w1 ⟨rfl, rfl⟩
    go_wp2_with fail
    go_ret2
    exact ⟨⟨_, rfl, IsN.zero⟩, (Below.refl _ _).alloc (Nat.le_refl _) _⟩

theorem ret_t3 {v u : Value} {a b : Int} (h : a = b) : Ending.returned (.tuple #[v, u, .int .i64 a]) = .returned (.tuple #[v, u, .int .i64 b]) := by rw [h]
theorem ndiv_l {w : World} {va vb : Value} {a b : List Nat} {lo hi lo' hi' : Nat} (ha : IsL .u32 w lo hi va a) (hb : IsL .u32 w lo' hi' vb b) (hi1 : hi ≤ w.heap.size) (hi2 : hi' ≤ w.heap.size) :
    Calls Tryd.prog 18 #[va, vb] w fun e w' => (∃ q r, e = .returned (.tuple #[q, r, .int .i64 (div2e a b)]) ∧ IsN w' w.heap.size w'.heap.size q (div2q a b) ∧ IsN w' w.heap.size w'.heap.size r (div2r a b)) ∧ Below w.heap.size w w' := by
  by_cases h : fst2 (chk a) (chk b) = 0
  · obtain ⟨h1, h2⟩ := fst2_zero h
    by_cases hz : val b = 0
    · have h3 := ndiv_zero (ha.isN h1) (by rw [← hz]; exact hb.isN h2) hi1 hi2 (chk_len h1)
      rw [div2e, div2q, div2r, if_pos h, if_pos h, if_pos h, if_pos hz, if_pos hz, hz, Nat.div_zero]
      exact h3.mono fun e w' ⟨he, hw⟩ => ⟨⟨_, _, he, IsN.zero, IsN.zero⟩, hw⟩
    · have h3 := ndiv_ok (ha.isN h1) (hb.isN h2) hi1 hi2 (chk_len h1) (chk_len h2) (by omega)
      rw [div2e, div2q, div2r, if_pos h, if_pos h, if_pos h, if_neg hz, if_neg hz]
      exact h3
  · have h3 := ndiv_bad ha hb hi1 hi2 h
    rw [div2e, div2q, div2r, if_neg h, if_neg h, if_neg h]
    exact h3.mono fun e w' ⟨he, hw⟩ => ⟨⟨_, _, he, IsN.zero, IsN.zero⟩, hw⟩
end Go.Proofs.YtbeocfiimminiaaDoor
