/-
  The contract of package long's Gcd.
-/
import Derived.Test.YtbeocfiimminiaaDoorBinary
import Derived.Test.YtbeocfiimminiaaDoorSteps
import Derived.Test.YtbeocfiimminiaaDoorLead
import Derived.Test.YtbeocfiimminiaaDoorMix
import Derived.Test.YtbeocfiimminiaaDoorLongE
import Derived.Test.YtbeocfiimminiaaDoorLongG
namespace Go.Proofs.YtbeocfiimminiaaDoor
open Go.RowKit
set_option linter.unusedVariables false

theorem cel_inj {k : IntKind} {a b : List Nat} (hl : a.length = b.length) (h : ∀ j, j < a.length → (cel k a)[j]? = (cel k b)[j]?) : a = b := by
  apply List.ext_getElem hl
  intro j h1 h2
  have h3 := h j h1
  rw [cel_getElem?, cel_getElem?, List.getElem?_eq_getElem h1, List.getElem?_eq_getElem h2] at h3
  simp only [Option.map_some, Option.some.injEq, Value.int.injEq, true_and] at h3
  omega
/-- The world and the value fix the list, and the number. -/
theorem IsL.unique {k : IntKind} {w : World} {lo hi lo' hi' : Nat} {v : Value} {a b : List Nat} (ha : IsL k w lo hi v a) (hb : IsL k w lo' hi' v b) : a = b := by
  obtain ⟨A, c, rfl, _, _, hA⟩ := ha
  obtain ⟨B, d, hv, _, _, hB⟩ := hb
  simp only [Value.slice.injEq] at hv
  obtain ⟨rfl, hl, rfl⟩ := hv
  refine cel_inj (k := k) hl fun j hj => ?_
  obtain ⟨b1, o1, rfl, _, _, h1⟩ := hA (cel_ne (j := j) hj)
  have e1 := h1 j _ (cel_at hj)
  have e2 := hB.at_ j _ (cel_at (k := k) (l := b) (by omega))
  rw [cel_at hj, cel_at (by omega)]
  exact e1.symm.trans e2
theorem IsN.unique {w : World} {lo hi lo' hi' : Nat} {v : Value} {x y : Nat} (ha : IsN w lo hi v x) (hb : IsN w lo' hi' v y) : x = y := lim_inj (IsL.unique ha hb)

open Classical in
/-- The number that a value reads as: for a loop's measure. -/
noncomputable def numOf (w : World) (v : Value) : Nat := if h : ∃ n, IsN w 0 w.heap.size v n then Classical.choose h else 0
theorem numOf_eq {w : World} {v : Value} {n : Nat} (h : IsN w 0 w.heap.size v n) : numOf w v = n := by
  have hex : ∃ n, IsN w 0 w.heap.size v n := ⟨n, h⟩
  unfold numOf
  rw [dif_pos hex]
  exact IsN.unique (Classical.choose_spec hex) h

theorem IsN.up {w w' : World} {v : Value} {n lo : Nat} (h : IsN w lo w.heap.size v n) (hb : Below w.heap.size w w') : IsN w' 0 w'.heap.size v n := (h.below hb (Nat.le_refl _)).wide (Nat.zero_le _) hb.size
theorem below_two {w w1 w2 : World} (h : Below w.heap.size w w1) (hb : Below w1.heap.size w1 w2) : Below w.heap.size w w2 := h.trans (hb.mono h.size)
theorem lt_of_two {y : Nat} (h : (lim y).length ≤ 2) : y < 1000000000000000000 := by
  have := lim_len_le.1 h
  simpa [pw] using this
theorem two_of_lt {y z : Nat} (h : (lim y).length ≤ 2) (hz : z ≤ y) : (lim z).length ≤ 2 := Nat.le_trans (lim_len_mono hz) h

set_option maxRecDepth 100000 in
set_option maxHeartbeats 2000000 in
theorem gcd_small {w : World} {va vb : Value} {x y : Nat} (ha : IsN w 0 w.heap.size va x) (hb : IsN w 0 w.heap.size vb y) (hB : Bru w) (h1 : (lim x).length ≤ 2) (h2 : (lim y).length ≤ 2) :
    Calls Tryd.prog 40 #[va, vb] w fun e w' => (∃ v, e = .returned v ∧ IsN w' w.heap.size w'.heap.size v (Nat.gcd x y)) ∧ Below w.heap.size w w' := by
  have Ha := Lib.hid ha
  have Hb := Lib.hid hb
  have HB := Lib.hid hB
  obtain ⟨A, c, rfl, _, _, _⟩ := ha
  obtain ⟨B, d, rfl, _, _, _⟩ := hb
  have hx := Lib.hid (lt_of_two h1)
  have hy := Lib.hid (lt_of_two h2)
  have hg : Hid (Nat.gcd x y ≤ 1000000000000000000) := by
    have := hx.out; have := hy.out
    rcases Nat.eq_zero_or_pos x with h | h
    · unfold Hid; rw [h, Nat.gcd_zero_left]; omega
    · exact Nat.le_trans (Nat.le_of_dvd h (Nat.gcd_dvd_left x y)) (by omega)
  have H1 := Lib.hid h1
  have H2 := Lib.hid h2
  go_enter Tryd.func40, Tryd.ntmps40
  go_wp2_with fail
  refine (word_n Ha.out H1.out).mono ?_
  rintro e w1 ⟨rfl, rfl⟩
  go_wp2_with fail
  refine (word_n Hb.out H2.out).mono ?_
  rintro e w1 ⟨rfl, rfl⟩
  go_wp2_with fail
  refine (binary_n x y w HB.out (by have := hx.out; omega) (by have := hy.out; omega)).mono ?_
  rintro e w1 ⟨rfl, rfl⟩
  go_wp2_with fail
  refine (of_n w _ (by have := hg.out; omega)).mono ?_
  rintro e w1 ⟨⟨v, rfl, hv⟩, hb1⟩
  go_wp2_with fail
  go_ret
  exact ⟨⟨_, rfl, hv⟩, hb1⟩

set_option maxRecDepth 100000 in
set_option maxHeartbeats 2000000 in
theorem gcd_one {w : World} {va vb : Value} {x y : Nat} (ha : IsN w 0 w.heap.size va x) (hb : IsN w 0 w.heap.size vb y) (h : ¬ ((lim x).length ≤ 2 ∧ (lim y).length ≤ 2)) (h1 : x = 1 ∨ y = 1) :
    Calls Tryd.prog 40 #[va, vb] w fun e w' => (∃ v, e = .returned v ∧ IsN w' w.heap.size w'.heap.size v (Nat.gcd x y)) ∧ Below w.heap.size w w' := by
  have Ha := Lib.hid ha
  have Hb := Lib.hid hb
  have hg : Hid (Nat.gcd x y = 1) := by
    rcases h1 with h1 | h1
    · rw [h1]; exact Nat.gcd_one_left y
    · rw [h1]; exact Nat.gcd_one_right x
  have hdx : ∃ bx, decide (x = 1) = bx := ⟨_, rfl⟩
  have hdy : ∃ b_, decide (y = 1) = b_ := ⟨_, rfl⟩
  obtain ⟨bx, hbx⟩ := hdx
  obtain ⟨b_, hby⟩ := hdy
  have hor : (bx = true) ∨ (bx = false ∧ b_ = true) := by
    rcases h1 with h1 | h1
    · left; rw [← hbx]; simpa using h1
    · cases bx
      · right; exact ⟨rfl, by rw [← hby]; simpa using h1⟩
      · left; rfl
  have Hbx := Lib.hid hbx
  have Hby := Lib.hid hby
  obtain ⟨A, c, rfl, _, _, _⟩ := ha
  obtain ⟨B, d, rfl, _, _, _⟩ := hb
  clear hbx hby h1
  rw [Hid] at hg
  rw [hg]
  clear hg
  have hcase : (2 < (lim x).length) ∨ ((lim x).length ≤ 2 ∧ 2 < (lim y).length) := by omega
  clear h
  rcases hcase with h | ⟨h, h'⟩
  all_goals
    rcases hor with rfl | ⟨rfl, rfl⟩
    all_goals
      go_enter Tryd.func40, Tryd.ntmps40
      go_wp2_with fail
      refine (isOne_n Ha.out).mono ?_
      rw [Hbx.out]
      rintro e w1 ⟨rfl, rfl⟩
      go_wp2_with fail
      first
        | (refine (one_n w).mono ?_
           rintro e w1 ⟨⟨v, rfl, hv⟩, hb1⟩
           go_wp2_with fail
           go_ret
           exact ⟨⟨_, rfl, hv⟩, hb1⟩)
        | (refine (isOne_n Hb.out).mono ?_
           rw [Hby.out]
           rintro e w1 ⟨rfl, rfl⟩
           go_wp2_with fail
           refine (one_n w).mono ?_
           rintro e w1 ⟨⟨v, rfl, hv⟩, hb1⟩
           go_wp2_with fail
           go_ret
           exact ⟨⟨_, rfl, hv⟩, hb1⟩)

/-- Where the loop of Gcd stands. -/
def GcdAt (G : Nat) (w0 wr : World) (va vb : Value) : Prop := ∃ X Y : Nat, IsN wr 0 wr.heap.size va X ∧ IsN wr 0 wr.heap.size vb Y ∧ Y ≤ X ∧ Nat.gcd X Y = G ∧ (lim X).length ≤ 4294967296 ∧ Below w0.heap.size w0 wr

theorem GcdAt.intro {G X Y : Nat} {w0 wr : World} {va vb : Value} (h1 : IsN wr 0 wr.heap.size va X) (h2 : IsN wr 0 wr.heap.size vb Y) (h3 : Y ≤ X) (h4 : Nat.gcd X Y = G) (h5 : (lim X).length ≤ 4294967296) (h6 : Below w0.heap.size w0 wr) : GcdAt G w0 wr va vb := ⟨X, Y, h1, h2, h3, h4, h5, h6⟩

theorem pat_signs {w x y z : Int} (h : (1 ≤ w ∧ x ≤ 0 ∧ y ≤ 0 ∧ 1 ≤ z ∧ w * z - x * y = 1) ∨ (w ≤ 0 ∧ 1 ≤ x ∧ 1 ≤ y ∧ z ≤ -1 ∧ w * z - x * y = -1)) :
    ((0 ≤ w ∧ x ≤ 0) ∨ (w ≤ 0 ∧ 0 ≤ x)) ∧ ((0 ≤ y ∧ z ≤ 0) ∨ (y ≤ 0 ∧ 0 ≤ z)) := by
  rcases h with ⟨a, b, c, d, _⟩ | ⟨a, b, c, d, _⟩
  · exact ⟨.inl ⟨by omega, by omega⟩, .inr ⟨by omega, by omega⟩⟩
  · exact ⟨.inr ⟨by omega, by omega⟩, .inl ⟨by omega, by omega⟩⟩

set_option maxRecDepth 100000 in
set_option maxHeartbeats 4000000 in
theorem gcd_long {w : World} {va vb : Value} {x y : Nat} (ha : IsN w 0 w.heap.size va x) (hb : IsN w 0 w.heap.size vb y) (hB : Bru w) (hx9 : (lim x).length ≤ 4294967296) (hy9 : (lim y).length ≤ 4294967296) (h : ¬ ((lim x).length ≤ 2 ∧ (lim y).length ≤ 2)) (hx1 : x ≠ 1) (hy1 : y ≠ 1) :
    Calls Tryd.prog 40 #[va, vb] w fun e w' => (∃ v, e = .returned v ∧ IsN w' w.heap.size w'.heap.size v (Nat.gcd x y)) ∧ Below w.heap.size w w' := by
  have Ha := Lib.hid ha
  have Hb := Lib.hid hb
  have HB := Lib.hid hB
  obtain ⟨A, c, rfl, _, _, _⟩ := ha
  obtain ⟨B, d, rfl, _, _, _⟩ := hb
  have Hx := Lib.hid (decide_eq_false hx1)
  have Hy := Lib.hid (decide_eq_false hy1)
  obtain ⟨G, hG⟩ : ∃ G, G = Nat.gcd x y := ⟨_, rfl⟩
  rw [← hG]
  have HG := Lib.hid hG
  have Hx9 := Lib.hid hx9
  have Hy9 := Lib.hid hy9
  clear hx1 hy1 hG hB hx9 hy9
  have hcase : (2 < (lim x).length) ∨ ((lim x).length ≤ 2 ∧ 2 < (lim y).length) := by omega
  clear h
  have hord : (x < y) ∨ (y ≤ x) := Nat.lt_or_ge x y
  rcases hcase with h | ⟨h, h'⟩
  all_goals
    rcases hord with hlt | hge
    all_goals
      go_enter Tryd.func40, Tryd.ntmps40
      go_wp2_with fail
      refine (isOne_n Ha.out).mono ?_
      rw [Hx.out]
      rintro e w1 ⟨rfl, rfl⟩
      go_wp2_with fail
      refine (isOne_n Hb.out).mono ?_
      rw [Hy.out]
      rintro e w1 ⟨rfl, rfl⟩
      go_wp2_with fail
      refine (cmp_n Ha.out Hb.out).mono ?_
      first
        | (rw [sgn_lt hlt]
           have hst : ∀ q, Hid (GcdAt G w (w.drewN q) (.slice B (lim y).length d) (.slice A (lim x).length c)) := fun q => GcdAt.intro (Hb.out.drewN q) (Ha.out.drewN q) (Nat.le_of_lt hlt) (by rw [Nat.gcd_comm]; exact HG.out.symm) Hy9.out (below_drewN (Below.refl _ _) q)
           clear hlt)
        | (have hs0 : 0 ≤ sgn x y := by
             unfold sgn
             rw [if_neg (by omega)]
             split <;> omega
           generalize sgn x y = sg at *
           have hst : ∀ q, Hid (GcdAt G w (w.drewN q) (.slice A (lim x).length c) (.slice B (lim y).length d)) := fun q => GcdAt.intro (Ha.out.drewN q) (Hb.out.drewN q) hge HG.out.symm Hx9.out (below_drewN (Below.refl _ _) q)
           clear hge)
      rintro e w1 ⟨rfl, q, rfl⟩
      have Hst := Lib.hid (hst q)
      clear hst
      go_wp2_with fail
      go_loopw [0, 1] (fun v0 v1 wr => GcdAt G w wr v0 v1) (fun _ v1 wr => numOf wr v1)
      case atStart => exact Hst.out.out
      case round =>
        clear Hst
        obtain ⟨X, Y, hX, hY, hYX, hXY, hX9, hbw⟩ := hrel
        have HX := Lib.hid hX
        have HY := Lib.hid hY
        have HBr := Lib.hid (HB.out.below hbw)
        obtain ⟨AA, c1, rfl, _, _, _⟩ := hX
        obtain ⟨BB, d1, rfl, _, _, _⟩ := hY
        have HXY := Lib.hid hXY
        clear hXY
        rcases Nat.lt_or_ge 2 (lim Y).length with h2 | h2
        · have h3 : 3 ≤ (lim X).length := Nat.le_trans h2 (lim_len_mono hYX)
          go_wp2_with fail
          refine (lead_n HX.out HY.out (Nat.le_refl _) (Nat.le_refl _) hYX h3 hX9).mono ?_
          rintro e w2 ⟨⟨S, hS0, rfl, hXS⟩, hb2⟩
          have hYS : Hid (Y / S ≤ X / S) := Nat.div_le_div_right hYX
          have hXS' := Lib.hid hXS
          clear hXS
          go_wp2_with fail
          refine (steps_n w2 X Y S _ _ hS0 rfl rfl hYX (by have := hXS'.out; omega) (by have := hXS'.out; have := hYS.out; omega)).mono ?_
          rintro e w3 ⟨⟨wq, xq, yq, zq, a, b, rfl, hLI, ⟨hw0, hw1, hx0, hx1⟩, ⟨hy0, hy1, hz0, hz1⟩⟩, rfl⟩
          obtain ⟨A', B', eA, eB, hBA, hg, hne, _⟩ := hLI.num
          have hsg := Lib.hid (pat_signs hLI.pat)
          have HA' := Lib.hid eA
          have HB' := Lib.hid eB
          have Hg := Lib.hid hg
          have Hne := Lib.hid hne
          have HX2 := Lib.hid (HX.out.up hb2)
          have HY2 := Lib.hid (HY.out.up hb2)
          have hbw2 := Lib.hid (below_two hbw hb2)
          have HXS := Lib.hid hYX
          clear hLI eA eB hg hne hb2 hXS' hYS
          have hYp : 0 < Y := by
            rcases Nat.eq_zero_or_pos Y with h0 | h0
            · rw [h0, lim_zero] at h2; simp at h2
            · exact h0
          by_cases hxq : xq = 0
          · subst hxq
            go_wp2_with fail
            refine (div_n HX2.out HY2.out (Nat.le_refl _) (Nat.le_refl _) hX9 (Nat.le_trans (lim_len_mono hYX) hX9) hYp).mono ?_
            rintro e w3 ⟨⟨vq, vr, rfl, hq, hr⟩, hb3⟩
            have hr' := Lib.hid (hr.wide (lo' := 0) (Nat.zero_le _) (Nat.le_refl _))
            have HY3 := Lib.hid (HY2.out.up hb3)
            clear hq hr
            go_wp2_with fail
            go_roundw
            case rel => exact GcdAt.intro HY3.out hr'.out (Nat.le_of_lt (Nat.mod_lt _ hYp)) (by rw [← HXY.out, Nat.gcd_comm X Y, Nat.gcd_rec Y X, Nat.gcd_comm]) (Nat.le_trans (lim_len_mono hYX) hX9) (below_two hbw2.out hb3)
            case measure =>
              show numOf w3 vr < numOf wr (.slice BB (lim Y).length d1)
              rw [numOf_eq hr'.out, numOf_eq HY.out]
              exact Nat.mod_lt _ hYp
          · have hxb : (xq == 0) = false := by simpa using hxq
            have hne' := Hne.out hxq
            obtain ⟨hlt', hle'⟩ := hne'
            have hAX : A' ≤ X := Nat.le_trans hle' hYX
            have Hxq := Lib.hid hxq
            clear hxq
            go_wp2_with fail
            refine (mix_n wq xq HX2.out HY2.out (Nat.le_refl _) (Nat.le_refl _) hw0 hw1 hx0 hx1 hsg.out.1 HA'.out hAX hYX hX9).mono ?_
            rintro e w3 ⟨⟨va', rfl, hva⟩, hb3⟩
            have HX3 := Lib.hid (HX2.out.up hb3)
            have HY3 := Lib.hid (HY2.out.up hb3)
            have hva' := Lib.hid hva
            clear hva
            go_wp2_with fail
            refine (mix_n yq zq HX3.out HY3.out (Nat.le_refl _) (Nat.le_refl _) hy0 hy1 hz0 hz1 hsg.out.2 HB'.out (by omega) hYX hX9).mono ?_
            rintro e w4 ⟨⟨vb', rfl, hvb⟩, hb4⟩
            have hvb' := Lib.hid (hvb.wide (lo' := 0) (Nat.zero_le _) (Nat.le_refl _))
            have hva2 := Lib.hid (hva'.out.up hb4)
            clear hvb
            go_wp2_with fail
            go_roundw
            case rel => exact GcdAt.intro hva2.out hvb'.out hBA (by rw [Hg.out]; exact HXY.out) (Nat.le_trans (lim_len_mono hAX) hX9) (below_two (below_two hbw2.out hb3) hb4)
            case measure =>
              show numOf w4 vb' < numOf wr (.slice BB (lim Y).length d1)
              rw [numOf_eq hvb'.out, numOf_eq HY.out]
              omega
        · rcases Nat.eq_zero_or_pos Y with h0 | h0
          · have hG0 : Hid (X = G) := by
              have := HXY.out
              rw [h0, Nat.gcd_zero_right] at this
              exact this
            have hl0 : (lim Y).length = 0 := by rw [h0, lim_zero]; rfl
            have Hl0 := Lib.hid hl0
            rw [Hl0.out]
            clear hl0
            go_wp2_with fail
            refine (copy_n HX.out hX9).mono ?_
            rintro e w3 ⟨⟨v, rfl, hv⟩, hb3⟩
            go_wp2_with fail
            go_ret
            rw [hG0.out] at hv
            exact ⟨⟨_, rfl, hv.wide hbw.size (Nat.le_refl _)⟩, below_two hbw hb3⟩
          · have hl1 : (((lim Y).length : Int) == 0) = false := by
              have := lim_nil_iff (n := Y)
              rw [beq_eq_false_iff_ne]
              omega
            have H2 := Lib.hid h2
            go_wp2_with fail
            refine (div_n HX.out HY.out (Nat.le_refl _) (Nat.le_refl _) hX9 (Nat.le_trans (lim_len_mono hYX) hX9) h0).mono ?_
            rintro e w3 ⟨⟨vq, vr, rfl, hq, hr⟩, hb3⟩
            have hmod := Lib.hid (Nat.mod_lt X h0)
            have hr' := Lib.hid (hr.wide (lo' := 0) (Nat.zero_le _) (Nat.le_refl _))
            have HY3 := Lib.hid (HY.out.up hb3)
            have hr2 : Hid ((lim (X % Y)).length ≤ 2) := two_of_lt H2.out (Nat.le_of_lt hmod.out)
            have hY64 := Lib.hid (lt_of_two H2.out)
            have HB3 := Lib.hid (HBr.out.below hb3)
            have hgf : Hid (Nat.gcd Y (X % Y) = G) := by rw [Hid, ← HXY.out, Nat.gcd_comm X Y, Nat.gcd_rec Y X, Nat.gcd_comm]
            have hGb : Hid (G ≤ 18446744073709551615) := by
              have h1 := hgf.out
              have h2 : Nat.gcd Y (X % Y) ≤ Y := Nat.le_of_dvd h0 (Nat.gcd_dvd_left _ _)
              have := hY64.out
              unfold Hid
              omega
            have hbw3 := below_two hbw hb3
            clear hq hr hb3
            go_wp2_with fail
            refine (word_n HY3.out H2.out).mono ?_
            rintro e w4 ⟨rfl, rfl⟩
            go_wp2_with fail
            refine (word_n hr'.out hr2.out).mono ?_
            rintro e w4 ⟨rfl, rfl⟩
            go_wp2_with fail
            refine (binary_n Y (X % Y) _ HB3.out (by have := hY64.out; omega) (by have := hY64.out; have := hmod.out; omega)).mono ?_
            rw [hgf.out]
            rintro e w4 ⟨rfl, rfl⟩
            go_wp2_with fail
            refine (of_n _ G hGb.out).mono ?_
            rintro e w4 ⟨⟨v, rfl, hv⟩, hb4⟩
            go_wp2_with fail
            go_ret
            exact ⟨⟨_, rfl, hv.wide hbw3.size (Nat.le_refl _)⟩, below_two hbw3 hb4⟩

theorem gcd_n {w : World} {va vb : Value} {x y : Nat} (ha : IsN w 0 w.heap.size va x) (hb : IsN w 0 w.heap.size vb y) (hB : Bru w) (hx9 : (lim x).length ≤ 4294967296) (hy9 : (lim y).length ≤ 4294967296) :
    Calls Tryd.prog 40 #[va, vb] w fun e w' => (∃ v, e = .returned v ∧ IsN w' w.heap.size w'.heap.size v (Nat.gcd x y)) ∧ Below w.heap.size w w' := by
  by_cases h : (lim x).length ≤ 2 ∧ (lim y).length ≤ 2
  · exact gcd_small ha hb hB h.1 h.2
  · by_cases hx : x = 1
    · exact gcd_one ha hb h (.inl hx)
    · by_cases hy : y = 1
      · exact gcd_one ha hb h (.inr hy)
      · exact gcd_long ha hb hB hx9 hy9 h hx hy
end Go.Proofs.YtbeocfiimminiaaDoor
