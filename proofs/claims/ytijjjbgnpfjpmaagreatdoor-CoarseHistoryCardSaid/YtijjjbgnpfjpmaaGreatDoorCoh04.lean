/-
  The zaf of package long's Gcd.
-/
import Derived.Test.YtijjjbgnpfjpmaaGreatDoorCoh01
import Derived.Test.YtijjjbgnpfjpmaaGreatDoorCoh03
import Derived.Test.YtijjjbgnpfjpmaaGreatDoorCoh02
import Derived.OrdersHeld
import Derived.Below
import Derived.Test.YtijjjbgnpfjpmaaGreatDoorChecked
import Derived.WalkKit
import Derived.ProofKit
import Derived.OpenShut
import Derived.ChangeSame
import Derived.Carry
import Derived.Deep.DeepHandedRow
import Derived.Deep.Slices
namespace Go.Proofs.YtijjjbgnpfjpmaaGreatDoor
open Go.RowKit
set_option linter.unusedVariables false
theorem cel_inj {k : IntKind} {a b : List Nat} (hl : a.length = b.length) (h : ∀ j, j < a.length → (cel k a)[j]? = (cel k b)[j]?) : a = b := by
  apply List.ext_getElem hl
  intro j h1 h2
  have h3 := h j h1
  rw [cel_getElem?, cel_getElem?, List.getElem?_eq_getElem h1, List.getElem?_eq_getElem h2] at h3
  simp only [Option.map_some, Option.some.injEq, Value.int.injEq, true_and] at h3
  omega
theorem IsL.unique {k : IntKind} {w : World} {lo hi lo' hi' : Nat} {v : Value} {a b : List Nat} (ha : IsL k w lo hi v a) (hb : IsL k w lo' hi' v b) : a = b := by
  obtain ⟨A, c, rfl, _, _, hA⟩ := ha
  obtain ⟨B, d, hv, _, _, hB⟩ := hb
  simp only [Value.slice.injEq] at hv
  obtain ⟨rfl, hl, rfl⟩ := hv
  refine cel_inj (k := k) hl fun j hj => ?_
  obtain ⟨b1, o1, rfl, _, _, h1⟩ := hA (zap (j := j) hj)
  have e1 := h1 j _ (zdf hj)
  have e2 := hB.at_ j _ (zdf (k := k) (l := b) og)
  rw [zdf hj, zdf og]
  exact e1.symm.trans e2
theorem IsN.unique {w : World} {lo hi lo' hi' : Nat} {v : Value} {x y : Nat} (ha : IsN w lo hi v x) (hb : IsN w lo' hi' v y) : x = y := lim_inj (IsL.unique ha hb)
open Classical in
noncomputable def numOf (w : World) (v : Value) : Nat := if h : ∃ n, IsN w 0 w.heap.size v n then Classical.choose h else 0
theorem zek {w : World} {v : Value} {n : Nat} (h : IsN w 0 w.heap.size v n) : numOf w v = n := by
  have hex : ∃ n, IsN w 0 w.heap.size v n := ⟨n, h⟩
  unfold numOf
  rw [dif_pos hex]
  exact IsN.unique (Classical.choose_spec hex) h
theorem IsN.up {w w' : World} {v : Value} {n lo : Nat} (h : IsN w lo w.heap.size v n) (hb : Below w.heap.size w w') : IsN w' 0 w'.heap.size v n := (h.below hb (Nat.le_refl _)).wide (Nat.zero_le _) hb.size
theorem zcf {w w1 w2 : World} (h : Below w.heap.size w w1) (hb : Below w1.heap.size w1 w2) : Below w.heap.size w w2 := h.trans (hb.mono h.size)
theorem lt_of_two {y : Nat} (h : (lim y).length ≤ 2) : y < 1000000000000000000 := by
  have := lim_len_le.1 h
  simpa [pw] using this
theorem two_of_lt {y z : Nat} (h : (lim y).length ≤ 2) (hz : z ≤ y) : (lim z).length ≤ 2 := Nat.le_trans (zah hz) h
set_option maxRecDepth 100000 in
set_option maxHeartbeats 2000000 in
theorem gcd_small {w : World} {va vb : Value} {x y : Nat} (ha : IsN w 0 w.heap.size va x) (hb : IsN w 0 w.heap.size vb y) (hB : Bru w) (h1 : (lim x).length ≤ 2) (h2 : (lim y).length ≤ 2) :
    Calls Tryz.prog 194 #[va, vb] w fun e w' => (∃ v, e = .returned v ∧ IsN w' w.heap.size w'.heap.size v (Nat.gcd x y)) ∧ Below w.heap.size w w' := by
  have Ha := Lib.hid ha
  have Hb := Lib.hid hb
  have HB := Lib.hid hB
  obtain ⟨A, c, rfl, _, _, _⟩ := ha
  obtain ⟨B, d, rfl, _, _, _⟩ := hb
  have hx := Lib.hid (lt_of_two h1)
  have hy := Lib.hid (lt_of_two h2)
  have hg : Hid (Nat.gcd x y ≤ 1000000000000000000) := by
    have := hx.out; have := hy.out
    rcases Nat.eq_zero_or_pos x with h | h
    · unfold Hid; rw [h, Nat.gcd_zero_left]; omega
    · exact Nat.le_trans (Nat.le_of_dvd h (Nat.gcd_dvd_left x y)) og
  have H1 := Lib.hid h1
  have H2 := Lib.hid h2
  go_enter Tryz.func194, Tryz.ntmps194
  go_wp2_with fail
  refine (word_n Ha.out H1.out).mono ?_
  rintro e w1 ⟨rfl, rfl⟩
  go_wp2_with fail
  refine (word_n Hb.out H2.out).mono ?_
  rintro e w1 ⟨rfl, rfl⟩
  go_wp2_with fail
  refine (binary_n x y w HB.out (oh hx) (oh hy)).mono ?_
  rintro e w1 ⟨rfl, rfl⟩
  go_wp2_with fail
  refine (of_n w _ (oh hg)).mono ?_
  rintro e w1 ⟨⟨v, rfl, hv⟩, hb1⟩
  go_wp2_with fail
  go_ret
  exact ⟨⟨_, rfl, hv⟩, hb1⟩
set_option maxRecDepth 100000 in
set_option maxHeartbeats 2000000 in
theorem gcd_one {w : World} {va vb : Value} {x y : Nat} (ha : IsN w 0 w.heap.size va x) (hb : IsN w 0 w.heap.size vb y) (h : ¬ ((lim x).length ≤ 2 ∧ (lim y).length ≤ 2)) (h1 : x = 1 ∨ y = 1) :
    Calls Tryz.prog 194 #[va, vb] w fun e w' => (∃ v, e = .returned v ∧ IsN w' w.heap.size w'.heap.size v (Nat.gcd x y)) ∧ Below w.heap.size w w' := by
  have Ha := Lib.hid ha
  have Hb := Lib.hid hb
  have hg : Hid (Nat.gcd x y = 1) := by
    rcases h1 with h1 | h1
    · rw [h1]; exact Nat.gcd_one_left y
    · rw [h1]; exact Nat.gcd_one_right x
  have hdx : ∃ bx, decide (x = 1) = bx := ⟨_, rfl⟩
  have hdy : ∃ b_, decide (y = 1) = b_ := ⟨_, rfl⟩
  obtain ⟨bx, hbx⟩ := hdx
  obtain ⟨b_, hby⟩ := hdy
  have hor : (bx = true) ∨ (bx = false ∧ b_ = true) := by
    rcases h1 with h1 | h1
    · left; rw [← hbx]; simpa using h1
    · cases bx
      · right; exact ⟨rfl, by rw [← hby]; simpa using h1⟩
      · left; rfl
  have Hbx := Lib.hid hbx
  have Hby := Lib.hid hby
  obtain ⟨A, c, rfl, _, _, _⟩ := ha
  obtain ⟨B, d, rfl, _, _, _⟩ := hb
  clear hbx hby h1
  rw [Hid] at hg
  rw [hg]
  clear hg
  have hcase : (2 < (lim x).length) ∨ ((lim x).length ≤ 2 ∧ 2 < (lim y).length) := og
  clear h
  rcases hcase with h | ⟨h, h'⟩
  all_goals
    rcases hor with rfl | ⟨rfl, rfl⟩
    all_goals
      go_enter Tryz.func194, Tryz.ntmps194
      go_wp2_with fail
      refine (isOne_n Ha.out).mono ?_
      rw [Hbx.out]
      rintro e w1 ⟨rfl, rfl⟩
      go_wp2_with fail
      first
        | (refine (one_n w).mono ?_
           rintro e w1 ⟨⟨v, rfl, hv⟩, hb1⟩
           go_wp2_with fail
           go_ret
           exact ⟨⟨_, rfl, hv⟩, hb1⟩)
        | (refine (isOne_n Hb.out).mono ?_
           rw [Hby.out]
           rintro e w1 ⟨rfl, rfl⟩
           go_wp2_with fail
           refine (one_n w).mono ?_
           rintro e w1 ⟨⟨v, rfl, hv⟩, hb1⟩
           go_wp2_with fail
           go_ret
           exact ⟨⟨_, rfl, hv⟩, hb1⟩)
def GcdAt (G : Nat) (w0 wr : World) (va vb : Value) : Prop := ∃ X Y : Nat, IsN wr 0 wr.heap.size va X ∧ IsN wr 0 wr.heap.size vb Y ∧ Y ≤ X ∧ Nat.gcd X Y = G ∧ (lim X).length ≤ 4294967296 ∧ Below w0.heap.size w0 wr
theorem GcdAt.intro {G X Y : Nat} {w0 wr : World} {va vb : Value} (h1 : IsN wr 0 wr.heap.size va X) (h2 : IsN wr 0 wr.heap.size vb Y) (h3 : Y ≤ X) (h4 : Nat.gcd X Y = G) (h5 : (lim X).length ≤ 4294967296) (h6 : Below w0.heap.size w0 wr) : GcdAt G w0 wr va vb := ⟨X, Y, h1, h2, h3, h4, h5, h6⟩
theorem pat_signs {w x y z : Int} (h : (1 ≤ w ∧ x ≤ 0 ∧ y ≤ 0 ∧ 1 ≤ z ∧ w * z - x * y = 1) ∨ (w ≤ 0 ∧ 1 ≤ x ∧ 1 ≤ y ∧ z ≤ -1 ∧ w * z - x * y = -1)) :
    ((0 ≤ w ∧ x ≤ 0) ∨ (w ≤ 0 ∧ 0 ≤ x)) ∧ ((0 ≤ y ∧ z ≤ 0) ∨ (y ≤ 0 ∧ 0 ≤ z)) := by
  rcases h with ⟨a, b, c, d, _⟩ | ⟨a, b, c, d, _⟩
  · exact ⟨.inl ⟨by omega, by omega⟩, .inr ⟨by omega, by omega⟩⟩
  · exact ⟨.inr ⟨by omega, by omega⟩, .inl ⟨by omega, by omega⟩⟩
set_option maxRecDepth 100000 in
set_option maxHeartbeats 4000000 in
theorem gcd_long {w : World} {va vb : Value} {x y : Nat} (ha : IsN w 0 w.heap.size va x) (hb : IsN w 0 w.heap.size vb y) (hB : Bru w) (hx9 : (lim x).length ≤ 4294967296) (hy9 : (lim y).length ≤ 4294967296) (h : ¬ ((lim x).length ≤ 2 ∧ (lim y).length ≤ 2)) (hx1 : x ≠ 1) (hy1 : y ≠ 1) :
    Calls Tryz.prog 194 #[va, vb] w fun e w' => (∃ v, e = .returned v ∧ IsN w' w.heap.size w'.heap.size v (Nat.gcd x y)) ∧ Below w.heap.size w w' := by
  have Ha := Lib.hid ha
  have Hb := Lib.hid hb
  have HB := Lib.hid hB
  obtain ⟨A, c, rfl, _, _, _⟩ := ha
  obtain ⟨B, d, rfl, _, _, _⟩ := hb
  have Hx := Lib.hid (decide_eq_false hx1)
  have Hy := Lib.hid (decide_eq_false hy1)
  obtain ⟨G, hG⟩ : ∃ G, G = Nat.gcd x y := ⟨_, rfl⟩
  rw [← hG]
  have HG := Lib.hid hG
  have Hx9 := Lib.hid hx9
  have Hy9 := Lib.hid hy9
  clear hx1 hy1 hG hB hx9 hy9
  have hcase : (2 < (lim x).length) ∨ ((lim x).length ≤ 2 ∧ 2 < (lim y).length) := og
  clear h
  have hord : (x < y) ∨ (y ≤ x) := Nat.lt_or_ge x y
  rcases hcase with h | ⟨h, h'⟩
  all_goals
    rcases hord with hlt | hge
    all_goals
      go_enter Tryz.func194, Tryz.ntmps194
      go_wp2_with fail
      refine (isOne_n Ha.out).mono ?_
      rw [Hx.out]
      rintro e w1 ⟨rfl, rfl⟩
      go_wp2_with fail
      refine (isOne_n Hb.out).mono ?_
      rw [Hy.out]
      rintro e w1 ⟨rfl, rfl⟩
      go_wp2_with fail
      refine (cmp_n Ha.out Hb.out).mono ?_
      first
        | (rw [zdl hlt]
           have hst : ∀ q, Hid (GcdAt G w (w.drewN q) (.slice B (lim y).length d) (.slice A (lim x).length c)) := fun q => GcdAt.intro (Hb.out.drewN q) (Ha.out.drewN q) (Nat.le_of_lt hlt) (by rw [Nat.gcd_comm]; exact HG.out.symm) Hy9.out (below_drewN (Below.refl _ _) q)
           clear hlt)
        | (have hs0 : 0 ≤ sgn x y := by
             unfold sgn
             rw [if_neg og]
             split <;> omega
           generalize sgn x y = sg at *
           have hst : ∀ q, Hid (GcdAt G w (w.drewN q) (.slice A (lim x).length c) (.slice B (lim y).length d)) := fun q => GcdAt.intro (Ha.out.drewN q) (Hb.out.drewN q) hge HG.out.symm Hx9.out (below_drewN (Below.refl _ _) q)
           clear hge)
      rintro e w1 ⟨rfl, q, rfl⟩
      have Hst := Lib.hid (hst q)
      clear hst
      go_wp2_with fail
      go_loopw [0, 1] (fun v0 v1 wr => GcdAt G w wr v0 v1) (fun _ v1 wr => numOf wr v1)
      case atStart => exact Hst.out.out
      case round =>
        clear Hst
        obtain ⟨X, Y, hX, hY, hYX, hXY, hX9, hbw⟩ := hrel
        have HX := Lib.hid hX
        have HY := Lib.hid hY
        have HBr := Lib.hid (HB.out.below hbw)
        obtain ⟨AA, c1, rfl, _, _, _⟩ := hX
        obtain ⟨BB, d1, rfl, _, _, _⟩ := hY
        have HXY := Lib.hid hXY
        clear hXY
        rcases Nat.lt_or_ge 2 (lim Y).length with h2 | h2
        · have h3 : 3 ≤ (lim X).length := Nat.le_trans h2 (zah hYX)
          go_wp2_with fail
          refine (lead_n HX.out HY.out (Nat.le_refl _) (Nat.le_refl _) hYX h3 hX9).mono ?_
          rintro e w2 ⟨⟨S, hS0, rfl, hXS⟩, hb2⟩
          have hYS : Hid (Y / S ≤ X / S) := Nat.div_le_div_right hYX
          have hXS' := Lib.hid hXS
          clear hXS
          go_wp2_with fail
          refine (steps_n w2 X Y S _ _ hS0 rfl rfl hYX (by have := hXS'.out; omega) (by have := hXS'.out; have := hYS.out; omega)).mono ?_
          rintro e w3 ⟨⟨wq, xq, yq, zq, a, b, rfl, hLI, ⟨hw0, hw1, hx0, hx1⟩, ⟨hy0, hy1, hz0, hz1⟩⟩, rfl⟩
          obtain ⟨A', B', eA, eB, hBA, hg, hne, _⟩ := hLI.num
          have hsg := Lib.hid (pat_signs hLI.pat)
          have HA' := Lib.hid eA
          have HB' := Lib.hid eB
          have Hg := Lib.hid hg
          have Hne := Lib.hid hne
          have HX2 := Lib.hid (HX.out.up hb2)
          have HY2 := Lib.hid (HY.out.up hb2)
          have hbw2 := Lib.hid (zcf hbw hb2)
          have HXS := Lib.hid hYX
          clear hLI eA eB hg hne hb2 hXS' hYS
          have hYp : 0 < Y := by
            rcases Nat.eq_zero_or_pos Y with h0 | h0
            · rw [h0, lim_zero] at h2; simp at h2
            · exact h0
          by_cases hxq : xq = 0
          · subst hxq
            go_wp2_with fail
            refine (div_n HX2.out HY2.out (Nat.le_refl _) (Nat.le_refl _) hX9 (Nat.le_trans (zah hYX) hX9) hYp).mono ?_
            rintro e w3 ⟨⟨vq, vr, rfl, hq, hr⟩, hb3⟩
            have hr' := Lib.hid (hr.wide (lo' := 0) (Nat.zero_le _) (Nat.le_refl _))
            have HY3 := Lib.hid (HY2.out.up hb3)
            clear hq hr
            go_wp2_with fail
            go_roundw
            case rel => exact GcdAt.intro HY3.out hr'.out (Nat.le_of_lt (Nat.mod_lt _ hYp)) (by rw [← HXY.out, Nat.gcd_comm X Y, Nat.gcd_rec Y X, Nat.gcd_comm]) (Nat.le_trans (zah hYX) hX9) (zcf hbw2.out hb3)
            case measure =>
              show numOf w3 vr < numOf wr (.slice BB (lim Y).length d1)
              rw [zek hr'.out, zek HY.out]
              exact Nat.mod_lt _ hYp
          · have hxb : (xq == 0) = false := by simpa using hxq
            have hne' := Hne.out hxq
            obtain ⟨hlt', hle'⟩ := hne'
            have hAX : A' ≤ X := Nat.le_trans hle' hYX
            have Hxq := Lib.hid hxq
            clear hxq
            go_wp2_with fail
            refine (mix_n wq xq HX2.out HY2.out (Nat.le_refl _) (Nat.le_refl _) hw0 hw1 hx0 hx1 hsg.out.1 HA'.out hAX hYX hX9).mono ?_
            rintro e w3 ⟨⟨va', rfl, hva⟩, hb3⟩
            have HX3 := Lib.hid (HX2.out.up hb3)
            have HY3 := Lib.hid (HY2.out.up hb3)
            have hva' := Lib.hid hva
            clear hva
            go_wp2_with fail
            refine (mix_n yq zq HX3.out HY3.out (Nat.le_refl _) (Nat.le_refl _) hy0 hy1 hz0 hz1 hsg.out.2 HB'.out og hYX hX9).mono ?_
            rintro e w4 ⟨⟨vb', rfl, hvb⟩, hb4⟩
            have hvb' := Lib.hid (hvb.wide (lo' := 0) (Nat.zero_le _) (Nat.le_refl _))
            have hva2 := Lib.hid (hva'.out.up hb4)
            clear hvb
            go_wp2_with fail
            go_roundw
            case rel => exact GcdAt.intro hva2.out hvb'.out hBA (by rw [Hg.out]; exact HXY.out) (Nat.le_trans (zah hAX) hX9) (zcf (zcf hbw2.out hb3) hb4)
            case measure =>
              show numOf w4 vb' < numOf wr (.slice BB (lim Y).length d1)
              rw [zek hvb'.out, zek HY.out]
              omega
        · rcases Nat.eq_zero_or_pos Y with h0 | h0
          · have hG0 : Hid (X = G) := by
              have := HXY.out
              rw [h0, Nat.gcd_zero_right] at this
              exact this
            have hl0 : (lim Y).length = 0 := by rw [h0, lim_zero]; rfl
            have Hl0 := Lib.hid hl0
            rw [Hl0.out]
            clear hl0
            go_wp2_with fail
            refine (copy_n HX.out hX9).mono ?_
            rintro e w3 ⟨⟨v, rfl, hv⟩, hb3⟩
            go_wp2_with fail
            go_ret
            rw [hG0.out] at hv
            exact ⟨⟨_, rfl, hv.wide hbw.size (Nat.le_refl _)⟩, zcf hbw hb3⟩
          · have hl1 : (((lim Y).length : Int) == 0) = false := by
              have := lim_nil_iff (n := Y)
              rw [beq_eq_false_iff_ne]
              omega
            have H2 := Lib.hid h2
            go_wp2_with fail
            refine (div_n HX.out HY.out (Nat.le_refl _) (Nat.le_refl _) hX9 (Nat.le_trans (zah hYX) hX9) h0).mono ?_
            rintro e w3 ⟨⟨vq, vr, rfl, hq, hr⟩, hb3⟩
            have hmod := Lib.hid (Nat.mod_lt X h0)
            have hr' := Lib.hid (hr.wide (lo' := 0) (Nat.zero_le _) (Nat.le_refl _))
            have HY3 := Lib.hid (HY.out.up hb3)
            have hr2 : Hid ((lim (X % Y)).length ≤ 2) := two_of_lt H2.out (Nat.le_of_lt hmod.out)
            have hY64 := Lib.hid (lt_of_two H2.out)
            have HB3 := Lib.hid (HBr.out.below hb3)
            have hgf : Hid (Nat.gcd Y (X % Y) = G) := by rw [Hid, ← HXY.out, Nat.gcd_comm X Y, Nat.gcd_rec Y X, Nat.gcd_comm]
            have hGb : Hid (G ≤ 18446744073709551615) := by
              have h1 := hgf.out
              have h2 : Nat.gcd Y (X % Y) ≤ Y := Nat.le_of_dvd h0 (Nat.gcd_dvd_left _ _)
              have := hY64.out
              unfold Hid
              omega
            have hbw3 := zcf hbw hb3
            clear hq hr hb3
            go_wp2_with fail
            refine (word_n HY3.out H2.out).mono ?_
            rintro e w4 ⟨rfl, rfl⟩
            go_wp2_with fail
            refine (word_n hr'.out hr2.out).mono ?_
            rintro e w4 ⟨rfl, rfl⟩
            go_wp2_with fail
            refine (binary_n Y (X % Y) _ HB3.out (oh hY64) (oh2 hY64 hmod)).mono ?_
            rw [hgf.out]
            rintro e w4 ⟨rfl, rfl⟩
            go_wp2_with fail
            refine (of_n _ G hGb.out).mono ?_
            rintro e w4 ⟨⟨v, rfl, hv⟩, hb4⟩
            go_wp2_with fail
            go_ret
            exact ⟨⟨_, rfl, hv.wide hbw3.size (Nat.le_refl _)⟩, zcf hbw3 hb4⟩
theorem gcd_n {w : World} {va vb : Value} {x y : Nat} (ha : IsN w 0 w.heap.size va x) (hb : IsN w 0 w.heap.size vb y) (hB : Bru w) (hx9 : (lim x).length ≤ 4294967296) (hy9 : (lim y).length ≤ 4294967296) :
    Calls Tryz.prog 194 #[va, vb] w fun e w' => (∃ v, e = .returned v ∧ IsN w' w.heap.size w'.heap.size v (Nat.gcd x y)) ∧ Below w.heap.size w w' := by
  by_cases h : (lim x).length ≤ 2 ∧ (lim y).length ≤ 2
  · exact gcd_small ha hb hB h.1 h.2
  · by_cases hx : x = 1
    · exact gcd_one ha hb h (.inl hx)
    · by_cases hy : y = 1
      · exact gcd_one ha hb h (.inr hy)
      · exact gcd_long ha hb hB hx9 hy9 h hx hy
theorem below_trans' {w w1 w2 : World} (h : Below w.heap.size w w1) (hb : Below w1.heap.size w1 w2) : Below w.heap.size w w2 := h.trans (hb.mono h.size)
theorem len_max {w : World} {v : Value} {n : Nat} (h : IsN w 0 w.heap.size v n) : (lim n).length ≤ 9223372036854775807 := by have := h.length_le; unfold maxLen at this; omega
theorem len_zero {n : Nat} (h : n = 0) : (((lim n).length : Int) == 0) = true := by rw [h, lim_zero]; rfl
theorem len_pos {n : Nat} (h : n ≠ 0) : (((lim n).length : Int) == 0) = false := beq_eq_false_iff_ne.2 (by have := @lim_nil_iff n; omega)
def RetS (S : Nat → Prop) (w : World) (q : Rat) (e : Ending) (w' : World) : Prop := (∃ v, e = .returned v ∧ IsQ w' S v q) ∧ Below w.heap.size w w'
theorem isQ_oldS {w w' : World} {v : Value} {q : Rat} (h : IsQ w' (Old w) v q) (hb : Below w.heap.size w w') : IsQ w' (Old w') v q := IsQ.stb.to h (zav fun b h => Nat.lt_of_lt_of_le h hb.size)
set_option maxHeartbeats 400000 in
theorem coprime_n {w : World} {va vb : Value} {x y : Nat} (ha : IsN w 0 w.heap.size va x) (hb : IsN w 0 w.heap.size vb y) (hB : Bru w) (hx9 : (lim x).length ≤ 4294967296) (hy9 : (lim y).length ≤ 4294967296) :
    Calls Tryz.prog 148 #[va, vb] w fun e w' => (∃ b : Bool, e = .returned (.bool b) ∧ (b = true ↔ Nat.gcd x y = 1)) ∧ Below w.heap.size w w' := by
  have Ha := Lib.hid ha
  have Hb := Lib.hid hb
  have HB := Lib.hid hB
  obtain ⟨A, c, rfl, _, _, _⟩ := ha
  obtain ⟨B, d, rfl, _, _, _⟩ := hb
  clear hB
  by_cases h : (lim x).length ≤ 2 ∧ (lim y).length ≤ 2
  · obtain ⟨h1, h2⟩ := h
    have bx := lim_len_le.1 h1
    have by_ := lim_len_le.1 h2
    rw [show pw 2 = 1000000000000000000 from by decide] at bx by_
    have Hx := Lib.hid bx
    have Hy := Lib.hid by_
    clear bx by_
    obtain ⟨G, hG⟩ : ∃ G, G = Nat.gcd x y := ⟨_, rfl⟩
    have HG := Lib.hid hG
    clear hG
    go_enter Tryz.func148, Tryz.ntmps148
    go_wp2_with fail
    refine (word_n Ha.out h1).mono ?_
    rintro e w1 ⟨rfl, rfl⟩
    go_wp2_with fail
    refine (word_n Hb.out h2).mono ?_
    rintro e w1 ⟨rfl, rfl⟩
    go_wp2_with fail
    refine (binary_n x y w HB.out (Nat.lt_trans Hx.out og) (Nat.lt_trans Hy.out og)).mono ?_
    rw [← HG.out]
    rintro e w1 ⟨rfl, rfl⟩
    go_wp2_with fail
    go_ret
    exact ⟨⟨_, rfl, by rw [← HG.out]; simp; omega⟩, Below.refl _ _⟩
  · rcases Nat.lt_or_ge 2 (lim x).length with h1 | h1
    · clear h
      go_enter Tryz.func148, Tryz.ntmps148
      go_wp2_with fail
      refine (gcd_n Ha.out Hb.out HB.out hx9 hy9).mono ?_
      rintro e w1 ⟨⟨v, rfl, hv⟩, hb⟩
      have Hv := Lib.hid hv
      have Hbw := Lib.hid hb
      obtain ⟨P, k, rfl, _, _, _⟩ := hv
      clear hb
      go_wp2_with fail
      refine (isOne_n Hv.out).mono ?_
      rintro e w2 ⟨rfl, rfl⟩
      go_wp2_with fail
      go_ret
      exact ⟨⟨_, rfl, by simp⟩, Hbw.out⟩
    · have h2 : 2 < (lim y).length := og
      clear h
      go_enter Tryz.func148, Tryz.ntmps148
      go_wp2_with fail
      refine (gcd_n Ha.out Hb.out HB.out hx9 hy9).mono ?_
      rintro e w1 ⟨⟨v, rfl, hv⟩, hb⟩
      have Hv := Lib.hid hv
      have Hbw := Lib.hid hb
      obtain ⟨P, k, rfl, _, _, _⟩ := hv
      clear hb
      go_wp2_with fail
      refine (isOne_n Hv.out).mono ?_
      rintro e w2 ⟨rfl, rfl⟩
      go_wp2_with fail
      go_ret
      exact ⟨⟨_, rfl, by simp⟩, Hbw.out⟩
theorem isR_open {w : World} {S : Nat → Prop} {v : Value} {r : Raw} (h : IsR w S v r) : ∃ A c B d, v = .agg #[.bool r.neg, .slice A r.num.length c, .slice B r.den.length d] ∧ IsK .u32 w S (.slice A r.num.length c) r.num ∧ IsK .u32 w S (.slice B r.den.length d) r.den := h
theorem isV_get {w : World} {S : Nat → Prop} {A : Option Addr} {m c : Nat} {l : List Raw} (h : IsV w S (.slice A m c) l) {j : Nat} {r : Raw} (hj : l[j]? = some r) :
    ∃ b off P k Q d, A = some ⟨b, off, none⟩ ∧ S b ∧ IsR w S (.agg #[.bool r.neg, .slice P r.num.length k, .slice Q r.den.length d]) r ∧
      w.cell? ⟨b, off + j * 3, none⟩ = some (.bool r.neg) ∧ w.cell? ⟨b, off + j * 3 + 1, none⟩ = some (.slice P r.num.length k) ∧ w.cell? ⟨b, off + j * 3 + 2, none⟩ = some (.slice Q r.den.length d) := by
  obtain ⟨b, off, e, hA, hS, hr, _, hc⟩ := IsS.get h og hj
  obtain ⟨P, k, Q, d, rfl, h1, h2⟩ := hr
  refine ⟨b, off, P, k, Q, d, hA, hS, ⟨P, k, Q, d, rfl, h1, h2⟩, ?_, ?_, ?_⟩
  · exact hc 0 _ rfl
  · exact hc 1 _ rfl
  · exact hc 2 _ rfl
theorem zcb {w : World} {S : Nat → Prop} {v : Value} {l : List Raw} (h : IsV w S v l) : ∃ A c, v = .slice A l.length c ∧ l.length ≤ 9223372036854775807 := by
  obtain ⟨A, c, es, rfl, h1, h2, _⟩ := h
  exact ⟨A, c, rfl, by unfold maxLen at h2; omega⟩
theorem isM_get {w : World} {S : Nat → Prop} {A : Option Addr} {n c : Nat} {m : List (List Raw)} (h : IsM w S (.slice A n c) m) {j : Nat} {l : List Raw} (hj : m[j]? = some l) :
    ∃ b off P k, A = some ⟨b, off, none⟩ ∧ S b ∧ IsV w S (.slice P l.length k) l ∧ w.cell? ⟨b, off + j, none⟩ = some (.slice P l.length k) := by
  obtain ⟨b, off, e, hA, hS, hr, _, hc⟩ := IsS.get h og hj
  obtain ⟨P, k, es, rfl, h1⟩ := hr
  refine ⟨b, off, P, k, hA, hS, ⟨P, k, es, rfl, h1⟩, ?_⟩
  have := hc 0 _ rfl
  rw [Nat.mul_one, Nat.add_zero] at this
  exact this
def chkQ (r : Raw) : Int := chkRaw chk r
def chkN (num den : List Nat) : Int := if chk num ≠ 0 then chk num else if chk den ≠ 0 then chk den else if den = [] then 6 else 0
theorem chkQ_parts {r : Raw} (h : chkN r.num r.den ≠ 0) : chkQ r = chkN r.num r.den := by
  unfold chkN at *
  unfold chkQ chkRaw
  split
  · rfl
  · rename_i h1
    rw [if_neg h1] at h
    split
    · rfl
    · rename_i h2
      rw [if_neg h2] at h
      split
      · rfl
      · rename_i h3
        rw [if_neg h3] at h
        exact absurd rfl h
theorem chkQ_rest {r : Raw} (h : chkN r.num r.den = 0) : chkQ r = if (r.num = [] ∧ r.neg = true) ∨ Nat.gcd (val r.num) (val r.den) ≠ 1 then 3 else 0 := by
  unfold chkN at h
  unfold chkQ chkRaw
  split at h
  · rename_i h1; exact absurd h h1
  rename_i h1
  split at h
  · rename_i h2; exact absurd h h2
  rename_i h2
  split at h
  · cases h
  rename_i h3
  rw [if_neg h1, if_neg h2, if_neg h3]
theorem chkN_ok {num den : List Nat} (h : chkN num den = 0) : chk num = 0 ∧ chk den = 0 ∧ den ≠ [] ∧ val den ≠ 0 := by
  unfold chkN at h
  split at h
  · rename_i h1; exact absurd h h1
  rename_i h1
  split at h
  · rename_i h2; exact absurd h h2
  rename_i h2
  split at h
  · cases h
  rename_i h3
  have h1 := Decidable.not_not.1 h1
  have h2 := Decidable.not_not.1 h2
  refine ⟨h1, h2, h3, fun e => h3 ?_⟩
  rw [(chk_ok h2).2.2, e, lim_zero]
theorem chkQ_raw {q : Rat} (h : Sz q 1024) : chkQ (raw q) = 0 := chkRaw_raw (chk_lim h.1) (chk_lim h.2)
structure Prog where
  A : List (List Raw)
  B : List Raw
  C : List Raw
def IsP (w : World) (S : Nat → Prop) (v : Value) (p : Prog) : Prop :=
  ∃ A a B b C c, v = .agg #[.slice A p.A.length a, .slice B p.B.length b, .slice C p.C.length c] ∧ IsM w S (.slice A p.A.length a) p.A ∧ IsV w S (.slice B p.B.length b) p.B ∧ IsV w S (.slice C p.C.length c) p.C
theorem IsP.stb : Stb IsP := by
  rintro w w' S T v p ⟨A, a, B, b, C, c, hv, h1, h2, h3⟩ hs
  exact ⟨A, a, B, b, C, c, hv, IsM.stb.to h1 hs, IsV.stb.to h2 hs, IsV.stb.to h3 hs⟩
def rawV (l : List Rat) : List Raw := l.map raw
set_option maxHeartbeats 400000 in
theorem parts_l {w : World} {va vb : Value} {a b : List Nat} (ha : IsL .u32 w 0 w.heap.size va a) (hb : IsL .u32 w 0 w.heap.size vb b) : Calls Tryz.prog 147 #[va, vb] w fun e w' => e = .returned (.int .i64 (chkN a b)) ∧ w = w' := by
  have Ha := Lib.hid ha
  have Hb := Lib.hid hb
  obtain ⟨A, c, rfl, _, _, _⟩ := ha
  obtain ⟨B, d, rfl, _, _, _⟩ := hb
  obtain ⟨x, hx⟩ : ∃ x, x = chk a := ⟨_, rfl⟩
  obtain ⟨y, hy⟩ : ∃ y, y = chk b := ⟨_, rfl⟩
  have Hx := Lib.hid hx
  have Hy := Lib.hid hy
  clear hx hy
  by_cases h1 : x = 0
  case neg =>
    have e1 : (x != 0) = true := bne_iff_ne.2 h1
    have Hr : Hid (chkN a b = x) := by unfold Hid chkN; rw [← Hx.out, if_pos h1]
    go_enter Tryz.func147, Tryz.ntmps147
    go_wp2_with fail
    refine (zer Ha.out).mono ?_
    rw [← Hx.out]
    rintro e w1 ⟨rfl, rfl⟩
    go_wp2_with fail
    go_ret
    exact ⟨zae Hr.out.symm, rfl⟩
  have e1 : (x != 0) = false := by rw [h1]; rfl
  have H1 := Lib.hid h1
  clear h1
  by_cases h2 : y = 0
  case neg =>
    have e2 : (y != 0) = true := bne_iff_ne.2 h2
    have Hr : Hid (chkN a b = y) := by unfold Hid chkN; rw [← Hx.out, if_neg (by simp [H1.out]), ← Hy.out, if_pos h2]
    go_enter Tryz.func147, Tryz.ntmps147
    go_wp2_with fail
    refine (zer Ha.out).mono ?_
    rw [← Hx.out]
    rintro e w1 ⟨rfl, rfl⟩
    go_wp2_with fail
    refine (zer Hb.out).mono ?_
    rw [← Hy.out]
    rintro e w1 ⟨rfl, rfl⟩
    go_wp2_with fail
    go_ret
    exact ⟨zae Hr.out.symm, rfl⟩
  have e2 : (y != 0) = false := by rw [h2]; rfl
  have H2 := Lib.hid h2
  clear h2
  by_cases h3 : b = []
  · have e3 : ((b.length : Int) == 0) = true := by rw [h3]; rfl
    have Hr : Hid (chkN a b = 6) := by unfold Hid chkN; rw [← Hx.out, if_neg (by simp [H1.out]), ← Hy.out, if_neg (by simp [H2.out]), if_pos h3]
    clear h3
    go_enter Tryz.func147, Tryz.ntmps147
    go_wp2_with fail
    refine (zer Ha.out).mono ?_
    rw [← Hx.out]
    rintro e w1 ⟨rfl, rfl⟩
    go_wp2_with fail
    refine (zer Hb.out).mono ?_
    rw [← Hy.out]
    rintro e w1 ⟨rfl, rfl⟩
    go_wp2_with fail
    go_ret
    exact ⟨zae Hr.out.symm, rfl⟩
  · have e3 : ((b.length : Int) == 0) = false := beq_eq_false_iff_ne.2 (by have := List.length_pos_iff.2 h3; omega)
    have Hr : Hid (chkN a b = 0) := by unfold Hid chkN; rw [← Hx.out, if_neg (by simp [H1.out]), ← Hy.out, if_neg (by simp [H2.out]), if_neg h3]
    clear h3
    go_enter Tryz.func147, Tryz.ntmps147
    go_wp2_with fail
    refine (zer Ha.out).mono ?_
    rw [← Hx.out]
    rintro e w1 ⟨rfl, rfl⟩
    go_wp2_with fail
    refine (zer Hb.out).mono ?_
    rw [← Hy.out]
    rintro e w1 ⟨rfl, rfl⟩
    go_wp2_with fail
    go_ret
    exact ⟨zae Hr.out.symm, rfl⟩
theorem coprime_v {w : World} {va vb : Value} {a b : List Nat} (ea : a = lim (val a)) (eb : b = lim (val b)) (ha : IsN w 0 w.heap.size va (val a)) (hb : IsN w 0 w.heap.size vb (val b)) (hB : Bru w) (h1 : (lim (val a)).length ≤ 1024) (h2 : (lim (val b)).length ≤ 1024) :
    Calls Tryz.prog 148 #[va, vb] w fun e w' => (∃ b' : Bool, e = .returned (.bool b') ∧ (b' = true ↔ Nat.gcd (val a) (val b) = 1)) ∧ Below w.heap.size w w' :=
  coprime_n ha hb hB (Nat.le_trans h1 og) (Nat.le_trans h2 og)
set_option maxRecDepth 100000 in
set_option maxHeartbeats 1000000 in
theorem check_q {w : World} {v : Value} {r : Raw} (h : IsR w (Old w) v r) (hB : Bru w) : Calls Tryz.prog 79 #[v] w fun e w' => e = .returned (.int .i64 (chkQ r)) ∧ Below w.heap.size w w' := by
  obtain ⟨A, cA, B, cB, rfl, h1, h2⟩ := isR_open h
  obtain ⟨w0, hw0, hb0, rA, Hz⟩ := zao w #[.bool r.neg, .slice A r.num.length cA, .slice B r.den.length cB] 30
  have Hn := Lib.hid (IsK.isL (IsK.stb.next h1 hb0) (lo := 0) (hi := w0.heap.size) fun b hb => ⟨Nat.zero_le _, hb⟩)
  have Hd := Lib.hid (IsK.isL (IsK.stb.next h2 hb0) (lo := 0) (hi := w0.heap.size) fun b hb => ⟨Nat.zero_le _, hb⟩)
  have HB := Lib.hid (Bru.next hB hb0)
  clear hB
  obtain ⟨a0, a1, a2⟩ := zab rA
  have HA := Lib.hid rA
  have Hb := Lib.hid hb0
  have hl : r.num.length ≤ 9223372036854775807 := by have := Hn.out.length_le; unfold maxLen at this; omega
  clear h h1 h2 rA hb0
  obtain ⟨x, hx⟩ : ∃ x, x = chkN r.num r.den := ⟨_, rfl⟩
  have Hx := Lib.hid hx
  clear hx
  by_cases hx0 : x = 0
  case neg =>
    have e1 : (x != 0) = true := bne_iff_ne.2 hx0
    have Hr : Hid (chkQ r = x) := by rw [Hid, Hx.out]; exact chkQ_parts (by rw [← Hx.out]; exact hx0)
    go_enter Tryz.func79, Tryz.ntmps79
    go_wp2_with fail
    refine (parts_l Hn.out Hd.out).mono ?_
    rw [← Hx.out]
    rintro e w1 ⟨rfl, rfl⟩
    go_wp2_with fail
    go_ret
    exact ⟨zae Hr.out.symm, Hb.out⟩
  have e1 : (x != 0) = false := by rw [hx0]; rfl
  have hok := chkN_ok (num := r.num) (den := r.den) (by rw [← Hx.out]; exact hx0)
  have Hrest := Lib.hid (chkQ_rest (r := r) (by rw [← Hx.out]; exact hx0))
  have Hok := Lib.hid hok
  have HN := Lib.hid (Hn.out.isN hok.1)
  have HD := Lib.hid (Hd.out.isN hok.2.1)
  have en := (chk_ok hok.1).2.2
  have ed := (chk_ok hok.2.1).2.2
  have Hnl := Lib.hid (chk_len hok.1)
  have Hdl := Lib.hid (chk_len hok.2.1)
  clear hok hx0
  have Een := Lib.hid en
  have Eed := Lib.hid ed
  clear en ed
  obtain ⟨s, hs⟩ : ∃ s, s = r.neg := ⟨_, rfl⟩
  rw [← hs] at a0 hw0 Hrest ⊢
  clear hs
  by_cases h0 : r.num = []
  · have e2 : ((r.num.length : Int) == 0) = true := by rw [h0]; rfl
    cases s with
    | true =>
      have Hr : Hid (chkQ r = 3) := by rw [Hid, Hrest.out, if_pos (.inl ⟨h0, rfl⟩)]
      clear h0
      go_enter Tryz.func79, Tryz.ntmps79
      go_wp2_with fail
      refine (parts_l Hn.out Hd.out).mono ?_
      rw [← Hx.out]
      rintro e w1 ⟨rfl, rfl⟩
      go_wp2_with fail
      go_ret
      exact ⟨zae Hr.out.symm, Hb.out⟩
    | false =>
      have Hr : Hid (chkQ r = if Nat.gcd (val r.num) (val r.den) ≠ 1 then 3 else 0) := by rw [Hid, Hrest.out]; simp
      clear h0
      go_enter Tryz.func79, Tryz.ntmps79
      go_wp2_with fail
      refine (parts_l Hn.out Hd.out).mono ?_
      rw [← Hx.out]
      rintro e w1 ⟨rfl, rfl⟩
      go_wp2_with fail
      refine (show Calls Tryz.prog 148 #[.slice A r.num.length cA, .slice B r.den.length cB] w0 (fun e w' => (∃ b : Bool, e = .returned (.bool b) ∧ (b = true ↔ Nat.gcd (val r.num) (val r.den) = 1)) ∧ Below w0.heap.size w0 w') from coprime_v Een.out Eed.out HN.out HD.out HB.out Hnl.out Hdl.out).mono ?_
      rintro e w1 ⟨⟨b, rfl, hb⟩, hbw⟩
      have Hbw := Lib.hid (zaa Hb.out hbw)
      have Hbb := Lib.hid hb
      clear hb hbw
      cases b with
      | true =>
        have Hr2 : Hid (chkQ r = 0) := by rw [Hid, Hr.out, if_neg (by simp [Hbb.out.1 rfl])]
        go_wp2_with fail
        go_ret
        exact ⟨zae Hr2.out.symm, Hbw.out⟩
      | false =>
        have Hr2 : Hid (chkQ r = 3) := by rw [Hid, Hr.out, if_pos (fun h => Bool.noConfusion (Hbb.out.2 h))]
        go_wp2_with fail
        go_ret
        exact ⟨zae Hr2.out.symm, Hbw.out⟩
  · have e2 : ((r.num.length : Int) == 0) = false := beq_eq_false_iff_ne.2 (by have := List.length_pos_iff.2 h0; omega)
    have Hr : Hid (chkQ r = if Nat.gcd (val r.num) (val r.den) ≠ 1 then 3 else 0) := by rw [Hid, Hrest.out]; simp [h0]
    clear h0
    go_enter Tryz.func79, Tryz.ntmps79
    go_wp2_with fail
    refine (parts_l Hn.out Hd.out).mono ?_
    rw [← Hx.out]
    rintro e w1 ⟨rfl, rfl⟩
    go_wp2_with fail
    refine (show Calls Tryz.prog 148 #[.slice A r.num.length cA, .slice B r.den.length cB] w0 (fun e w' => (∃ b : Bool, e = .returned (.bool b) ∧ (b = true ↔ Nat.gcd (val r.num) (val r.den) = 1)) ∧ Below w0.heap.size w0 w') from coprime_v Een.out Eed.out HN.out HD.out HB.out Hnl.out Hdl.out).mono ?_
    rintro e w1 ⟨⟨b, rfl, hb⟩, hbw⟩
    have Hbw := Lib.hid (zaa Hb.out hbw)
    have Hbb := Lib.hid hb
    clear hb hbw
    cases b with
    | true =>
      have Hr2 : Hid (chkQ r = 0) := by rw [Hid, Hr.out, if_neg (by simp [Hbb.out.1 rfl])]
      go_wp2_with fail
      go_ret
      exact ⟨zae Hr2.out.symm, Hbw.out⟩
    | false =>
      have Hr2 : Hid (chkQ r = 3) := by rw [Hid, Hr.out, if_pos (fun h => Bool.noConfusion (Hbb.out.2 h))]
      go_wp2_with fail
      go_ret
      exact ⟨zae Hr2.out.symm, Hbw.out⟩
theorem some_at {α : Type} {l : List α} {j : Nat} (h : j < l.length) : ∃ x, l[j]? = some x := ⟨_, List.getElem?_eq_getElem h⟩
theorem rat_info : (Tryz.prog.info? 30).map (fun i => (i.zero, i.size, i.bytes)) = some (some (.agg #[.bool false, .slice none 0 0, .slice none 0 0]), 3, 56) := by kernel_rfl
theorem elR : ElN Tryz.prog 26 30 3 56 :=
  ⟨Tryz.underlying26, by obtain ⟨i, h1, h2, h3, h4⟩ := info_parts rat_info; exact ⟨i, _, h1, h2, h3, h4, rfl⟩, by omega⟩
theorem take_snoc {α : Type} {l : List α} {k : Nat} {x : α} (h : l[k]? = some x) : l.take (k + 1) = l.take k ++ [x] := by
  obtain ⟨hk, rfl⟩ := List.getElem?_eq_some_iff.1 h
  exact List.take_succ_eq_append_getElem hk
theorem isR_isQ {w : World} {S : Nat → Prop} {v : Value} {q : Rat} (h : IsR w S v (raw q)) : IsQ w S v q := h
theorem same_grown {w w' : World} {g : Nat} {S : Nat → Prop} (hg : w.grownBy w' (some g)) (hS : ∀ b, S b → b < w.heap.size ∧ b ≠ g) : Same S S w w' := fun b hb => ⟨hb, fun o => World.cell?_of_block (hg.block b (hS b hb).1 (fun e => (hS b hb).2 (by cases e; rfl)))⟩
theorem grown_below {w w' : World} {row : Option Nat} (hb : Below w.heap.size w w') : w.grownBy w' row := ⟨hb.os, hb.tape, hb.output, hb.size, fun k hk _ => hb.block k hk⟩
theorem OwnS.slice {α : Type} {n : Nat} {t : TypeId} {R : World → (Nat → Prop) → Value → α → Prop} {w : World} {base : Nat} {S : Nat → Prop} {v : Value} {l : List α} (h : OwnS n t R w base S v l) : ∃ A c, v = .slice A l.length c := by
  obtain ⟨es, h1, _⟩ := h
  rcases h1.2 with ⟨h2, h3⟩ | ⟨g, cap, cur, h2, _⟩
  · exact ⟨none, 0, by rw [h2, h3]⟩
  · exact ⟨_, _, h2⟩
theorem isS_row {α : Type} {n : Nat} {R : World → (Nat → Prop) → Value → α → Prop} {w : World} {S : Nat → Prop} {g : Nat} {t : TypeId} {es : List Value} {l : List α} (h : Row w g t (cellsOf es)) (hg : S g) (hw : Wid n es) (ha : All2 (R w S) es l) (hl : l.length ≤ 9223372036854775807) :
    IsS n R w S (.slice (some ⟨g, 0, none⟩) l.length l.length) l := by
  refine ⟨_, _, es, rfl, Nat.le_refl _, by unfold maxLen; omega, fun _ => ⟨g, 0, rfl, hg, fun i u hu => ?_⟩, hw, ha⟩
  rw [Nat.zero_add]
  exact h.cell i |>.trans (by simpa using hu)
theorem all2_one {α β : Type} {R : α → β → Prop} {x : α} {y : β} (h : R x y) : All2 R [x] [y] := All2.snoc All2.nil h
theorem all2_two {α β : Type} {R : α → β → Prop} {x u : α} {y v : β} (h : R x y) (h2 : R u v) : All2 R [x, u] [y, v] := All2.snoc (a := [x]) (b := [y]) (all2_one h) h2
section
variable {w : World} {p1 : Addr} {v1 : Value} {p2 : Addr} {v2 : Value} {p3 : Addr} {v3 : Value} {p4 : Addr} {v4 : Value} {p5 : Addr} {v5 : Value} {p6 : Addr} {v6 : Value} {p7 : Addr} {v7 : Value} {p8 : Addr} {v8 : Value} {p9 : Addr} {v9 : Value} {p10 : Addr} {v10 : Value} {p11 : Addr} {v11 : Value} {p12 : Addr} {v12 : Value} {p13 : Addr} {v13 : Value} {p14 : Addr} {v14 : Value}
theorem hs1 (c1 : w.cell? p1 = some v1) : Hid (∀ W : World, Below w.heap.size w W → W.cell? p1 = some v1) := fun W h => zac h c1
theorem hs2 (c1 : w.cell? p1 = some v1) (c2 : w.cell? p2 = some v2) : Hid (∀ W : World, Below w.heap.size w W → W.cell? p1 = some v1 ∧ W.cell? p2 = some v2) := fun W h => ⟨zac h c1, zac h c2⟩
theorem hs3 (c1 : w.cell? p1 = some v1) (c2 : w.cell? p2 = some v2) (c3 : w.cell? p3 = some v3) : Hid (∀ W : World, Below w.heap.size w W → W.cell? p1 = some v1 ∧ W.cell? p2 = some v2 ∧ W.cell? p3 = some v3) := fun W h => ⟨zac h c1, zac h c2, zac h c3⟩
theorem hs4 (c1 : w.cell? p1 = some v1) (c2 : w.cell? p2 = some v2) (c3 : w.cell? p3 = some v3) (c4 : w.cell? p4 = some v4) : Hid (∀ W : World, Below w.heap.size w W → W.cell? p1 = some v1 ∧ W.cell? p2 = some v2 ∧ W.cell? p3 = some v3 ∧ W.cell? p4 = some v4) := fun W h => ⟨zac h c1, zac h c2, zac h c3, zac h c4⟩
theorem hs6 (c1 : w.cell? p1 = some v1) (c2 : w.cell? p2 = some v2) (c3 : w.cell? p3 = some v3) (c4 : w.cell? p4 = some v4) (c5 : w.cell? p5 = some v5) (c6 : w.cell? p6 = some v6) : Hid (∀ W : World, Below w.heap.size w W → W.cell? p1 = some v1 ∧ W.cell? p2 = some v2 ∧ W.cell? p3 = some v3 ∧ W.cell? p4 = some v4 ∧ W.cell? p5 = some v5 ∧ W.cell? p6 = some v6) := fun W h => ⟨zac h c1, zac h c2, zac h c3, zac h c4, zac h c5, zac h c6⟩
theorem hs10 (c1 : w.cell? p1 = some v1) (c2 : w.cell? p2 = some v2) (c3 : w.cell? p3 = some v3) (c4 : w.cell? p4 = some v4) (c5 : w.cell? p5 = some v5) (c6 : w.cell? p6 = some v6) (c7 : w.cell? p7 = some v7) (c8 : w.cell? p8 = some v8) (c9 : w.cell? p9 = some v9) (c10 : w.cell? p10 = some v10) : Hid (∀ W : World, Below w.heap.size w W → W.cell? p1 = some v1 ∧ W.cell? p2 = some v2 ∧ W.cell? p3 = some v3 ∧ W.cell? p4 = some v4 ∧ W.cell? p5 = some v5 ∧ W.cell? p6 = some v6 ∧ W.cell? p7 = some v7 ∧ W.cell? p8 = some v8 ∧ W.cell? p9 = some v9 ∧ W.cell? p10 = some v10) := fun W h => ⟨zac h c1, zac h c2, zac h c3, zac h c4, zac h c5, zac h c6, zac h c7, zac h c8, zac h c9, zac h c10⟩
theorem hs12 (c1 : w.cell? p1 = some v1) (c2 : w.cell? p2 = some v2) (c3 : w.cell? p3 = some v3) (c4 : w.cell? p4 = some v4) (c5 : w.cell? p5 = some v5) (c6 : w.cell? p6 = some v6) (c7 : w.cell? p7 = some v7) (c8 : w.cell? p8 = some v8) (c9 : w.cell? p9 = some v9) (c10 : w.cell? p10 = some v10) (c11 : w.cell? p11 = some v11) (c12 : w.cell? p12 = some v12) : Hid (∀ W : World, Below w.heap.size w W → W.cell? p1 = some v1 ∧ W.cell? p2 = some v2 ∧ W.cell? p3 = some v3 ∧ W.cell? p4 = some v4 ∧ W.cell? p5 = some v5 ∧ W.cell? p6 = some v6 ∧ W.cell? p7 = some v7 ∧ W.cell? p8 = some v8 ∧ W.cell? p9 = some v9 ∧ W.cell? p10 = some v10 ∧ W.cell? p11 = some v11 ∧ W.cell? p12 = some v12) := fun W h => ⟨zac h c1, zac h c2, zac h c3, zac h c4, zac h c5, zac h c6, zac h c7, zac h c8, zac h c9, zac h c10, zac h c11, zac h c12⟩
end
structure SH (w : World) where
  s : World → Prop
  h : Hid (∀ W : World, Below w.heap.size w W → s W)
theorem heldD {P : Program} {ops : Array Oper} {Q : Exit → Act → World → Prop} {S : World → Prop} {id : Nat} {a : Act} {w0 w : World} (h : Hid (∀ W : World, Below w0.heap.size w0 W → S W)) (k : S w.drew → wpAnyH P .any ops Q S ops.size (Array.replicate ops.size false) a w.drew) (hm : P.follows .mixedOrders = true := by kernel_rfl) (hb : Below w0.heap.size w0 w.drew := by exact bel) : (Code.region id ops true).wp P Q a w := wp_region_held_drew hm (h.out _ hb) k
def NeL (V : Nat) (S : World → Prop) : Prop := ∀ (f : World → World), (∀ b o v W, b ≠ V → W.cell? ⟨b, o, none⟩ = some v → (f W).cell? ⟨b, o, none⟩ = some v) → ∀ W, S W → S (f W)
theorem nA {V b o : Nat} {v : Value} {S : World → Prop} (n : b ≠ V) (r : NeL V S) : NeL V (fun W => W.cell? ⟨b, o, none⟩ = some v ∧ S W) := fun f hf W h => ⟨hf _ _ _ _ n h.1, r f hf W h.2⟩
theorem nZ {V b o : Nat} {v : Value} (n : b ≠ V) : NeL V (fun W => W.cell? ⟨b, o, none⟩ = some v) := fun f hf W h => hf _ _ _ _ n h
section
variable {w : World} {V : Nat} {S : World → Prop}
theorem hpC (h : Hid (∀ W : World, Below w.heap.size w W → S W)) (r : NeL V S) : Hid (∀ W : World, Below w.heap.size w W → ∀ o x, S (W.setCell ⟨V, o, none⟩ x)) := fun W hW o x => r (fun W => W.setCell ⟨V, o, none⟩ x) (fun b o' v W n h => (World.cell?_setCell_other _ _ _ _ (fun e => n (by cases e; rfl))).trans h) W (h.out W hW)
theorem hp3 (h : Hid (∀ W : World, Below w.heap.size w W → S W)) (r : NeL V S) : Hid (∀ W : World, Below w.heap.size w W → ∀ x y z, S (put3 W V x y z)) := fun W hW x y z => r (fun W => Go.Proofs.YtijjjbgnpfjpmaaGreatDoor.put3 W V x y z) (fun b o v W n h => zaj h n) W (h.out W hW)
end
def sameR (a b : Raw) : Bool := decide (a.neg = b.neg) && decide (a.num = b.num) && decide (a.den = b.den)
theorem sameR_iff {a b : Raw} : sameR a b = true ↔ a = b := by
  unfold sameR
  rw [Bool.and_eq_true, Bool.and_eq_true, decide_eq_true_eq, decide_eq_true_eq, decide_eq_true_eq]
  obtain ⟨x, y, z⟩ := a
  obtain ⟨u, v, t⟩ := b
  simp [and_assoc]
theorem sameR_eq {a b : Raw} : sameR a b = decide (a = b) := by
  rw [Bool.eq_iff_iff, sameR_iff, decide_eq_true_eq]
theorem isK_l {k : IntKind} {w : World} {v : Value} {l : List Nat} (h : IsK k w (Old w) v l) : IsL k w 0 w.heap.size v l := h.isL fun b hb => ⟨Nat.zero_le _, hb⟩
def cntU : List Bool → Nat
  | [] => 0
  | b :: l => (if b then 0 else 1) + cntU l
theorem cntU_set : ∀ {l : List Bool} {i : Nat}, l[i]? = some false → cntU (l.set i true) + 1 = cntU l
  | b :: l, 0, h => by simp at h; subst h; simp [cntU]; omega
  | b :: l, i + 1, h => by
    have := cntU_set (l := l) (i := i) (by simpa using h)
    simp only [List.set_cons_succ, cntU]
    omega
theorem cntU_zero : ∀ {l : List Bool} {i : Nat} {b : Bool}, cntU l = 0 → l[i]? = some b → b = true
  | c :: l, 0, b, h, hb => by
    simp at hb
    subst hb
    cases c
    · simp [cntU] at h
    · rfl
  | c :: l, i + 1, b, h, hb => by
    refine cntU_zero (l := l) (i := i) ?_ (by simpa using hb)
    simp only [cntU] at h
    omega
theorem cntU_replicate (n : Nat) : cntU (List.replicate n false) = n := by
  induction n with
  | zero => rfl
  | succ n ih => rw [List.replicate_succ, cntU, ih]; simp; omega
def zcc (o : Oper) : List Nat := (o.after.toList.filter (Region.binds .any)).map (·.on)
section
variable {P : Program} {ops : Array Oper} {Q : Exit → Act → World → Prop} {Φ : Nat → Value → World → Prop} {a0 : Act} {w0 : World}
theorem put_size (a : Act) (d : Tmp) (v : Value) : (a.put (some d) v).tmps.size = a.tmps.size := by simp [Act.put]
theorem put_other (a : Act) {d t : Nat} (v : Value) (h : t ≠ d) : (a.put (some d) v).tmps[t]? = a.tmps[t]? := by
  simp only [Act.put]
  rw [Array.getElem?_setIfInBounds_ne (Ne.symm h)]
theorem put_same (a : Act) {d : Nat} (v : Value) (h : d < a.tmps.size) : (a.put (some d) v).tmps.getD d undef = v := by
  simp [Act.put, h]
theorem getD_of {a b : Array Value} {t : Nat} (h : a[t]? = b[t]?) : a.getD t undef = b.getD t undef := by
  simp only [Array.getD_eq_getD_getElem?, h]
theorem zeu {listed : Array Bool} {i : Nat} {o : Oper} (hi : ops[i]? = some o) (hr : i ∈ Region.ready .any ops listed) : listed.getD i true = false ∧ ∀ j ∈ zcc o, listed.getD j false = true := by
  unfold Region.ready at hr
  have h1 := (List.mem_filter.1 hr).2
  rw [hi] at h1
  simp only [Option.map_some, Option.getD_some, Bool.and_eq_true, Bool.not_eq_true'] at h1
  refine ⟨h1.1, fun j hj => ?_⟩
  obtain ⟨e, he, rfl⟩ := List.mem_map.1 hj
  obtain ⟨he, hb⟩ := List.mem_filter.1 he
  have h2 := (Array.all_eq_true'.1 h1.2) e (by simpa using he)
  rw [hb] at h2
  simpa using h2
end
end Go.Proofs.YtijjjbgnpfjpmaaGreatDoor
namespace Go.Proofs.YtijjjbgnpfjpmaaGreatDoor
open Go.RowKit Go.WideShapes Go.ChangeShapes
set_option linter.unusedVariables false
theorem own : ownKnob Tryz.prog.godebug = none := by kernel_rfl
theorem laidOut : laidOutB Tryz.prog = true := by kernel_rfl
section
variable {H : Type} {enc : TypeId × Value → H} {P : Program}
theorem post_below {f : Func} {s : ChangeSpec} {apart fresh handsOn again : Bool} {W W' : World} {args : Array Value} {v : Value} {ds gs : List (DataW H)} {before pa pv : List MemPlace}
    (hW : DataW.Whole enc P f.params.toList s.vars apart W args.toList ds gs before)
    (hres : ∀ (b : Nat) (sp : Nat → Bool) (hd : Bool), DataW.TrodAll enc P W' b sp hd f.resultTypes.toList (v.resultList f.resultTypes.size) (s.fn H (ds ++ gs)).results [])
    (hargs : ∀ sp : Nat → Bool, (∀ p ∈ before, sp p.block = true) → DataW.TrodAll enc P W' 0 sp true f.params.toList args.toList (s.fn H (ds ++ gs)).args pa)
    (hvars : ∀ sp : Nat → Bool, (∀ p ∈ before, sp p.block = true) → DataW.TrodVars enc P W' sp s.vars (s.fn H (ds ++ gs)).vars pv)
    (hps : before = pa ++ pv) (hb : Below W.heap.size W W')
    (hok : ∀ (j : Nat) (t : TypeId) (r : Value), f.resultTypes[j]? = some t → (v.resultList f.resultTypes.size)[j]? = some r → Value.okWide P W' .any 0 t r) :
    s.post enc P f apart fresh handsOn again W args v W' := by
  have hlt : ∀ p ∈ before, p.block < W.heap.size := fun p hp => hW.lt p hp
  have hold : ∀ p ∈ before, (fun b => decide (b < W.heap.size)) p.block = true := fun p hp => by simpa using hlt p hp
  refine ⟨ds, gs, before, [], pa, pv, hW, hres _ _ _, hargs _ hold, hvars _ hold, World.keptBut_mono (fun p hp => ⟨hp, ?_⟩) (hb.frame (· ∈ before)), fun _ => ?_⟩
  · rw [hps, List.mem_append] at hp
    exact Or.inr hp
  · obtain ⟨_, _, _, _, _, hz, hn⟩ := hW
    refine ⟨hok, _, _, ([] ++ pa) ++ pv, ⟨[] ++ pa, pv, trodAll_append (hargs _ (fun _ _ => rfl)) (hres _ _ _), hvars _ (fun _ _ => rfl), rfl, ?_, ?_⟩, ?_⟩
    · intro b off hp
      have hin : MemPlace.cell b off ∈ before := by rw [hps]; simpa using hp
      rw [hb.frozen (hlt _ hin)]
      exact hz b off hin
    · intro ha
      have := hn ha
      rw [hps] at this
      simpa using this
    · intro p hp _
      rw [hps]
      simpa using hp
end
end Go.Proofs.YtijjjbgnpfjpmaaGreatDoor
namespace Go.Proofs.YtijjjbgnpfjpmaaGreatDoor
open Go.RowKit Go.WideShapes Go.ChangeShapes Go.Deep
set_option linter.unusedVariables false
section
variable {H : Type} {enc : TypeId × Value → H} {w : World} {base : Nat} {sp : Nat → Bool} {held : Bool}
end
section
variable {H : Type} {enc : TypeId × Value → H} {w : World} {base base0 : Nat} {sp : Nat → Bool} {held : Bool}
end
end Go.Proofs.YtijjjbgnpfjpmaaGreatDoor
