/-
  The zau of package long's Gcd.
-/
import Derived.Test.YtjkgdggkgljdoaaDoorVinv04
import Derived.Test.YtjkgdggkgljdoaaDoorVinv05
import Derived.Test.YtjkgdggkgljdoaaDoorVinv02
import Derived.Test.YtjkgdggkgljdoaaDoorVinv01
import Derived.Test.YtjkgdggkgljdoaaDoorVinv03
namespace Go.Proofs.YtjkgdggkgljdoaaDoor
open Go.RowKit
set_option linter.unusedVariables false
theorem cel_inj {k : IntKind} {a b : List Nat} (hl : a.length = b.length) (h : ∀ j, j < a.length → (cel k a)[j]? = (cel k b)[j]?) : a = b := by
  apply List.ext_getElem hl
  intro j h1 h2
  have h3 := h j h1
  rw [cel_getElem?, cel_getElem?, List.getElem?_eq_getElem h1, List.getElem?_eq_getElem h2] at h3
  simp only [Option.map_some, Option.some.injEq, Value.int.injEq, true_and] at h3
  omega
theorem IsL.unique {k : IntKind} {w : World} {lo hi lo' hi' : Nat} {v : Value} {a b : List Nat} (ha : IsL k w lo hi v a) (hb : IsL k w lo' hi' v b) : a = b := by
  obtain ⟨A, c, rfl, _, _, hA⟩ := ha
  obtain ⟨B, d, hv, _, _, hB⟩ := hb
  simp only [Value.slice.injEq] at hv
  obtain ⟨rfl, hl, rfl⟩ := hv
  refine cel_inj (k := k) hl fun j hj => ?_
  obtain ⟨b1, o1, rfl, _, _, h1⟩ := hA (zbm (j := j) hj)
  have e1 := h1 j _ (cel_at hj)
  have e2 := hB.at_ j _ (cel_at (k := k) (l := b) (by omega))
  rw [cel_at hj, cel_at (by omega)]
  exact e1.symm.trans e2
theorem IsN.unique {w : World} {lo hi lo' hi' : Nat} {v : Value} {x y : Nat} (ha : IsN w lo hi v x) (hb : IsN w lo' hi' v y) : x = y := lim_inj (IsL.unique ha hb)
open Classical in
noncomputable def numOf (w : World) (v : Value) : Nat := if h : ∃ n, IsN w 0 w.heap.size v n then Classical.choose h else 0
theorem numOf_eq {w : World} {v : Value} {n : Nat} (h : IsN w 0 w.heap.size v n) : numOf w v = n := by
  have hex : ∃ n, IsN w 0 w.heap.size v n := ⟨n, h⟩
  unfold numOf
  rw [dif_pos hex]
  exact IsN.unique (Classical.choose_spec hex) h
theorem IsN.up {w w' : World} {v : Value} {n lo : Nat} (h : IsN w lo w.heap.size v n) (hb : Below w.heap.size w w') : IsN w' 0 w'.heap.size v n := (h.below hb (Nat.le_refl _)).wide (Nat.zero_le _) hb.size
theorem zej {w w1 w2 : World} (h : Below w.heap.size w w1) (hb : Below w1.heap.size w1 w2) : Below w.heap.size w w2 := h.trans (hb.mono h.size)
theorem lt_of_two {y : Nat} (h : (lim y).length ≤ 2) : y < 1000000000000000000 := by
  have := lim_len_le.1 h
  simpa [pw] using this
theorem two_of_lt {y z : Nat} (h : (lim y).length ≤ 2) (hz : z ≤ y) : (lim z).length ≤ 2 := Nat.le_trans (zas hz) h
set_option maxRecDepth 100000 in
set_option maxHeartbeats 2000000 in
theorem gcd_small {w : World} {va vb : Value} {x y : Nat} (ha : IsN w 0 w.heap.size va x) (hb : IsN w 0 w.heap.size vb y) (hB : Bru w) (h1 : (lim x).length ≤ 2) (h2 : (lim y).length ≤ 2) :
    Calls Tryd.prog 118 #[va, vb] w fun e w' => (∃ v, e = .returned v ∧ IsN w' w.heap.size w'.heap.size v (Nat.gcd x y)) ∧ Below w.heap.size w w' := by
  have Ha := Lib.hid ha
  have Hb := Lib.hid hb
  have HB := Lib.hid hB
  obtain ⟨A, c, rfl, _, _, _⟩ := ha
  obtain ⟨B, d, rfl, _, _, _⟩ := hb
  have hx := Lib.hid (lt_of_two h1)
  have hy := Lib.hid (lt_of_two h2)
  have hg : Hid (Nat.gcd x y ≤ 1000000000000000000) := by
    have := hx.out; have := hy.out
    rcases Nat.eq_zero_or_pos x with h | h
    · unfold Hid; rw [h, Nat.gcd_zero_left]; omega
    · exact Nat.le_trans (Nat.le_of_dvd h (Nat.gcd_dvd_left x y)) (by omega)
  have H1 := Lib.hid h1
  have H2 := Lib.hid h2
  go_enter Tryd.func118, Tryd.ntmps118
  go_wp2_with fail
  refine (word_n Ha.out H1.out).mono ?_
  rintro e w1 ⟨rfl, rfl⟩
  go_wp2_with fail
  refine (word_n Hb.out H2.out).mono ?_
  rintro e w1 ⟨rfl, rfl⟩
  go_wp2_with fail
  refine (binary_n x y w HB.out (by have := hx.out; omega) (by have := hy.out; omega)).mono ?_
  rintro e w1 ⟨rfl, rfl⟩
  go_wp2_with fail
  refine (of_n w _ (by have := hg.out; omega)).mono ?_
  rintro e w1 ⟨⟨v, rfl, hv⟩, hb1⟩
  go_wp2_with fail
  go_ret
  exact ⟨⟨_, rfl, hv⟩, hb1⟩
set_option maxRecDepth 100000 in
set_option maxHeartbeats 2000000 in
theorem gcd_one {w : World} {va vb : Value} {x y : Nat} (ha : IsN w 0 w.heap.size va x) (hb : IsN w 0 w.heap.size vb y) (h : ¬ ((lim x).length ≤ 2 ∧ (lim y).length ≤ 2)) (h1 : x = 1 ∨ y = 1) :
    Calls Tryd.prog 118 #[va, vb] w fun e w' => (∃ v, e = .returned v ∧ IsN w' w.heap.size w'.heap.size v (Nat.gcd x y)) ∧ Below w.heap.size w w' := by
  have Ha := Lib.hid ha
  have Hb := Lib.hid hb
  have hg : Hid (Nat.gcd x y = 1) := by
    rcases h1 with h1 | h1
    · rw [h1]; exact Nat.gcd_one_left y
    · rw [h1]; exact Nat.gcd_one_right x
  have hdx : ∃ bx, decide (x = 1) = bx := ⟨_, rfl⟩
  have hdy : ∃ b_, decide (y = 1) = b_ := ⟨_, rfl⟩
  obtain ⟨bx, hbx⟩ := hdx
  obtain ⟨b_, hby⟩ := hdy
  have hor : (bx = true) ∨ (bx = false ∧ b_ = true) := by
    rcases h1 with h1 | h1
    · left; rw [← hbx]; simpa using h1
    · cases bx
      · right; exact ⟨rfl, by rw [← hby]; simpa using h1⟩
      · left; rfl
  have Hbx := Lib.hid hbx
  have Hby := Lib.hid hby
  obtain ⟨A, c, rfl, _, _, _⟩ := ha
  obtain ⟨B, d, rfl, _, _, _⟩ := hb
  clear hbx hby h1
  rw [Hid] at hg
  rw [hg]
  clear hg
  have hcase : (2 < (lim x).length) ∨ ((lim x).length ≤ 2 ∧ 2 < (lim y).length) := by omega
  clear h
  rcases hcase with h | ⟨h, h'⟩
  all_goals
    rcases hor with rfl | ⟨rfl, rfl⟩
    all_goals
      go_enter Tryd.func118, Tryd.ntmps118
      go_wp2_with fail
      refine (zfl Ha.out).mono ?_
      rw [Hbx.out]
      rintro e w1 ⟨rfl, rfl⟩
      go_wp2_with fail
      first
        | (refine (one_n w).mono ?_
           rintro e w1 ⟨⟨v, rfl, hv⟩, hb1⟩
           go_wp2_with fail
           go_ret
           exact ⟨⟨_, rfl, hv⟩, hb1⟩)
        | (refine (zfl Hb.out).mono ?_
           rw [Hby.out]
           rintro e w1 ⟨rfl, rfl⟩
           go_wp2_with fail
           refine (one_n w).mono ?_
           rintro e w1 ⟨⟨v, rfl, hv⟩, hb1⟩
           go_wp2_with fail
           go_ret
           exact ⟨⟨_, rfl, hv⟩, hb1⟩)
def GcdAt (G : Nat) (w0 wr : World) (va vb : Value) : Prop := ∃ X Y : Nat, IsN wr 0 wr.heap.size va X ∧ IsN wr 0 wr.heap.size vb Y ∧ Y ≤ X ∧ Nat.gcd X Y = G ∧ (lim X).length ≤ 4294967296 ∧ Below w0.heap.size w0 wr
theorem GcdAt.intro {G X Y : Nat} {w0 wr : World} {va vb : Value} (h1 : IsN wr 0 wr.heap.size va X) (h2 : IsN wr 0 wr.heap.size vb Y) (h3 : Y ≤ X) (h4 : Nat.gcd X Y = G) (h5 : (lim X).length ≤ 4294967296) (h6 : Below w0.heap.size w0 wr) : GcdAt G w0 wr va vb := ⟨X, Y, h1, h2, h3, h4, h5, h6⟩
theorem pat_signs {w x y z : Int} (h : (1 ≤ w ∧ x ≤ 0 ∧ y ≤ 0 ∧ 1 ≤ z ∧ w * z - x * y = 1) ∨ (w ≤ 0 ∧ 1 ≤ x ∧ 1 ≤ y ∧ z ≤ -1 ∧ w * z - x * y = -1)) :
    ((0 ≤ w ∧ x ≤ 0) ∨ (w ≤ 0 ∧ 0 ≤ x)) ∧ ((0 ≤ y ∧ z ≤ 0) ∨ (y ≤ 0 ∧ 0 ≤ z)) := by
  rcases h with ⟨a, b, c, d, _⟩ | ⟨a, b, c, d, _⟩
  · exact ⟨.inl ⟨by omega, by omega⟩, .inr ⟨by omega, by omega⟩⟩
  · exact ⟨.inr ⟨by omega, by omega⟩, .inl ⟨by omega, by omega⟩⟩
set_option maxRecDepth 100000 in
set_option maxHeartbeats 4000000 in
theorem gcd_long {w : World} {va vb : Value} {x y : Nat} (ha : IsN w 0 w.heap.size va x) (hb : IsN w 0 w.heap.size vb y) (hB : Bru w) (hx9 : (lim x).length ≤ 4294967296) (hy9 : (lim y).length ≤ 4294967296) (h : ¬ ((lim x).length ≤ 2 ∧ (lim y).length ≤ 2)) (hx1 : x ≠ 1) (hy1 : y ≠ 1) :
    Calls Tryd.prog 118 #[va, vb] w fun e w' => (∃ v, e = .returned v ∧ IsN w' w.heap.size w'.heap.size v (Nat.gcd x y)) ∧ Below w.heap.size w w' := by
  have Ha := Lib.hid ha
  have Hb := Lib.hid hb
  have HB := Lib.hid hB
  obtain ⟨A, c, rfl, _, _, _⟩ := ha
  obtain ⟨B, d, rfl, _, _, _⟩ := hb
  have Hx := Lib.hid (decide_eq_false hx1)
  have Hy := Lib.hid (decide_eq_false hy1)
  obtain ⟨G, hG⟩ : ∃ G, G = Nat.gcd x y := ⟨_, rfl⟩
  rw [← hG]
  have HG := Lib.hid hG
  have Hx9 := Lib.hid hx9
  have Hy9 := Lib.hid hy9
  clear hx1 hy1 hG hB hx9 hy9
  have hcase : (2 < (lim x).length) ∨ ((lim x).length ≤ 2 ∧ 2 < (lim y).length) := by omega
  clear h
  have hord : (x < y) ∨ (y ≤ x) := Nat.lt_or_ge x y
  rcases hcase with h | ⟨h, h'⟩
  all_goals
    rcases hord with hlt | hge
    all_goals
      go_enter Tryd.func118, Tryd.ntmps118
      go_wp2_with fail
      refine (zfl Ha.out).mono ?_
      rw [Hx.out]
      rintro e w1 ⟨rfl, rfl⟩
      go_wp2_with fail
      refine (zfl Hb.out).mono ?_
      rw [Hy.out]
      rintro e w1 ⟨rfl, rfl⟩
      go_wp2_with fail
      refine (cmp_n Ha.out Hb.out).mono ?_
      first
        | (rw [sgn_lt hlt]
           have hst : ∀ q, Hid (GcdAt G w (w.drewN q) (.slice B (lim y).length d) (.slice A (lim x).length c)) := fun q => GcdAt.intro (Hb.out.drewN q) (Ha.out.drewN q) (Nat.le_of_lt hlt) (by rw [Nat.gcd_comm]; exact HG.out.symm) Hy9.out (below_drewN (Below.refl _ _) q)
           clear hlt)
        | (have hs0 : 0 ≤ sgn x y := by
             unfold sgn
             rw [if_neg (by omega)]
             split <;> omega
           generalize sgn x y = sg at *
           have hst : ∀ q, Hid (GcdAt G w (w.drewN q) (.slice A (lim x).length c) (.slice B (lim y).length d)) := fun q => GcdAt.intro (Ha.out.drewN q) (Hb.out.drewN q) hge HG.out.symm Hx9.out (below_drewN (Below.refl _ _) q)
           clear hge)
      rintro e w1 ⟨rfl, q, rfl⟩
      have Hst := Lib.hid (hst q)
      clear hst
      go_wp2_with fail
      go_loopw [0, 1] (fun v0 v1 wr => GcdAt G w wr v0 v1) (fun _ v1 wr => numOf wr v1)
      case atStart => exact Hst.out.out
      case round =>
        clear Hst
        obtain ⟨X, Y, hX, hY, hYX, hXY, hX9, hbw⟩ := hrel
        have HX := Lib.hid hX
        have HY := Lib.hid hY
        have HBr := Lib.hid (HB.out.below hbw)
        obtain ⟨AA, c1, rfl, _, _, _⟩ := hX
        obtain ⟨BB, d1, rfl, _, _, _⟩ := hY
        have HXY := Lib.hid hXY
        clear hXY
        rcases Nat.lt_or_ge 2 (lim Y).length with h2 | h2
        · have h3 : 3 ≤ (lim X).length := Nat.le_trans h2 (zas hYX)
          go_wp2_with fail
          refine (lead_n HX.out HY.out (Nat.le_refl _) (Nat.le_refl _) hYX h3 hX9).mono ?_
          rintro e w2 ⟨⟨S, hS0, rfl, hXS⟩, hb2⟩
          have hYS : Hid (Y / S ≤ X / S) := Nat.div_le_div_right hYX
          have hXS' := Lib.hid hXS
          clear hXS
          go_wp2_with fail
          refine (steps_n w2 X Y S _ _ hS0 rfl rfl hYX (by have := hXS'.out; omega) (by have := hXS'.out; have := hYS.out; omega)).mono ?_
          rintro e w3 ⟨⟨wq, xq, yq, zq, a, b, rfl, hLI, ⟨hw0, hw1, hx0, hx1⟩, ⟨hy0, hy1, hz0, hz1⟩⟩, rfl⟩
          obtain ⟨A', B', eA, eB, hBA, hg, hne, _⟩ := hLI.num
          have hsg := Lib.hid (pat_signs hLI.pat)
          have HA' := Lib.hid eA
          have HB' := Lib.hid eB
          have Hg := Lib.hid hg
          have Hne := Lib.hid hne
          have HX2 := Lib.hid (HX.out.up hb2)
          have HY2 := Lib.hid (HY.out.up hb2)
          have hbw2 := Lib.hid (zej hbw hb2)
          have HXS := Lib.hid hYX
          clear hLI eA eB hg hne hb2 hXS' hYS
          have hYp : 0 < Y := by
            rcases Nat.eq_zero_or_pos Y with h0 | h0
            · rw [h0, zbd] at h2; simp at h2
            · exact h0
          by_cases hxq : xq = 0
          · subst hxq
            go_wp2_with fail
            refine (div_n HX2.out HY2.out (Nat.le_refl _) (Nat.le_refl _) hX9 (Nat.le_trans (zas hYX) hX9) hYp).mono ?_
            rintro e w3 ⟨⟨vq, vr, rfl, hq, hr⟩, hb3⟩
            have hr' := Lib.hid (hr.wide (lo' := 0) (Nat.zero_le _) (Nat.le_refl _))
            have HY3 := Lib.hid (HY2.out.up hb3)
            clear hq hr
            go_wp2_with fail
            go_roundw
            case rel => exact GcdAt.intro HY3.out hr'.out (Nat.le_of_lt (Nat.mod_lt _ hYp)) (by rw [← HXY.out, Nat.gcd_comm X Y, Nat.gcd_rec Y X, Nat.gcd_comm]) (Nat.le_trans (zas hYX) hX9) (zej hbw2.out hb3)
            case measure =>
              show numOf w3 vr < numOf wr (.slice BB (lim Y).length d1)
              rw [numOf_eq hr'.out, numOf_eq HY.out]
              exact Nat.mod_lt _ hYp
          · have hxb : (xq == 0) = false := by simpa using hxq
            have hne' := Hne.out hxq
            obtain ⟨hlt', hle'⟩ := hne'
            have hAX : A' ≤ X := Nat.le_trans hle' hYX
            have Hxq := Lib.hid hxq
            clear hxq
            go_wp2_with fail
            refine (mix_n wq xq HX2.out HY2.out (Nat.le_refl _) (Nat.le_refl _) hw0 hw1 hx0 hx1 hsg.out.1 HA'.out hAX hYX hX9).mono ?_
            rintro e w3 ⟨⟨va', rfl, hva⟩, hb3⟩
            have HX3 := Lib.hid (HX2.out.up hb3)
            have HY3 := Lib.hid (HY2.out.up hb3)
            have hva' := Lib.hid hva
            clear hva
            go_wp2_with fail
            refine (mix_n yq zq HX3.out HY3.out (Nat.le_refl _) (Nat.le_refl _) hy0 hy1 hz0 hz1 hsg.out.2 HB'.out (by omega) hYX hX9).mono ?_
            rintro e w4 ⟨⟨vb', rfl, hvb⟩, hb4⟩
            have hvb' := Lib.hid (hvb.wide (lo' := 0) (Nat.zero_le _) (Nat.le_refl _))
            have hva2 := Lib.hid (hva'.out.up hb4)
            clear hvb
            go_wp2_with fail
            go_roundw
            case rel => exact GcdAt.intro hva2.out hvb'.out hBA (by rw [Hg.out]; exact HXY.out) (Nat.le_trans (zas hAX) hX9) (zej (zej hbw2.out hb3) hb4)
            case measure =>
              show numOf w4 vb' < numOf wr (.slice BB (lim Y).length d1)
              rw [numOf_eq hvb'.out, numOf_eq HY.out]
              omega
        · rcases Nat.eq_zero_or_pos Y with h0 | h0
          · have hG0 : Hid (X = G) := by
              have := HXY.out
              rw [h0, Nat.gcd_zero_right] at this
              exact this
            have hl0 : (lim Y).length = 0 := by rw [h0, zbd]; rfl
            have Hl0 := Lib.hid hl0
            rw [Hl0.out]
            clear hl0
            go_wp2_with fail
            refine (copy_n HX.out hX9).mono ?_
            rintro e w3 ⟨⟨v, rfl, hv⟩, hb3⟩
            go_wp2_with fail
            go_ret
            rw [hG0.out] at hv
            exact ⟨⟨_, rfl, hv.wide hbw.size (Nat.le_refl _)⟩, zej hbw hb3⟩
          · have hl1 : (((lim Y).length : Int) == 0) = false := by
              have := lim_nil_iff (n := Y)
              rw [beq_eq_false_iff_ne]
              omega
            have H2 := Lib.hid h2
            go_wp2_with fail
            refine (div_n HX.out HY.out (Nat.le_refl _) (Nat.le_refl _) hX9 (Nat.le_trans (zas hYX) hX9) h0).mono ?_
            rintro e w3 ⟨⟨vq, vr, rfl, hq, hr⟩, hb3⟩
            have hmod := Lib.hid (Nat.mod_lt X h0)
            have hr' := Lib.hid (hr.wide (lo' := 0) (Nat.zero_le _) (Nat.le_refl _))
            have HY3 := Lib.hid (HY.out.up hb3)
            have hr2 : Hid ((lim (X % Y)).length ≤ 2) := two_of_lt H2.out (Nat.le_of_lt hmod.out)
            have hY64 := Lib.hid (lt_of_two H2.out)
            have HB3 := Lib.hid (HBr.out.below hb3)
            have hgf : Hid (Nat.gcd Y (X % Y) = G) := by rw [Hid, ← HXY.out, Nat.gcd_comm X Y, Nat.gcd_rec Y X, Nat.gcd_comm]
            have hGb : Hid (G ≤ 18446744073709551615) := by
              have h1 := hgf.out
              have h2 : Nat.gcd Y (X % Y) ≤ Y := Nat.le_of_dvd h0 (Nat.gcd_dvd_left _ _)
              have := hY64.out
              unfold Hid
              omega
            have hbw3 := zej hbw hb3
            clear hq hr hb3
            go_wp2_with fail
            refine (word_n HY3.out H2.out).mono ?_
            rintro e w4 ⟨rfl, rfl⟩
            go_wp2_with fail
            refine (word_n hr'.out hr2.out).mono ?_
            rintro e w4 ⟨rfl, rfl⟩
            go_wp2_with fail
            refine (binary_n Y (X % Y) _ HB3.out (by have := hY64.out; omega) (by have := hY64.out; have := hmod.out; omega)).mono ?_
            rw [hgf.out]
            rintro e w4 ⟨rfl, rfl⟩
            go_wp2_with fail
            refine (of_n _ G hGb.out).mono ?_
            rintro e w4 ⟨⟨v, rfl, hv⟩, hb4⟩
            go_wp2_with fail
            go_ret
            exact ⟨⟨_, rfl, hv.wide hbw3.size (Nat.le_refl _)⟩, zej hbw3 hb4⟩
theorem gcd_n {w : World} {va vb : Value} {x y : Nat} (ha : IsN w 0 w.heap.size va x) (hb : IsN w 0 w.heap.size vb y) (hB : Bru w) (hx9 : (lim x).length ≤ 4294967296) (hy9 : (lim y).length ≤ 4294967296) :
    Calls Tryd.prog 118 #[va, vb] w fun e w' => (∃ v, e = .returned v ∧ IsN w' w.heap.size w'.heap.size v (Nat.gcd x y)) ∧ Below w.heap.size w w' := by
  by_cases h : (lim x).length ≤ 2 ∧ (lim y).length ≤ 2
  · exact gcd_small ha hb hB h.1 h.2
  · by_cases hx : x = 1
    · exact gcd_one ha hb h (.inl hx)
    · by_cases hy : y = 1
      · exact gcd_one ha hb h (.inr hy)
      · exact gcd_long ha hb hB hx9 hy9 h hx hy
set_option maxHeartbeats 400000 in
theorem zero_q (w : World) : Calls Tryd.prog 70 #[] w (RetQ w 0) := by
  obtain ⟨w0, hw0, hb0, rZ, Hz⟩ := zcf w #[.bool false, .slice none 0 0, .slice none 0 0] 50
  have Z_0 := Lib.hid (rZ)
  have bw_0 := Lib.hid (hb0)
  have sz_0 : Hid (w.heap.size + 1 ≤ w0.heap.size) := Lib.hid (Nat.le_of_eq Hz.out.symm)
  clear rZ hb0
  obtain ⟨cZ0_1, cZ1_1, cZ2_1⟩ := zad Z_0.out
  obtain ⟨fZ0_1, fZ1_1, fZ2_1⟩ := zaq Z_0.out
  go_enter Tryd.func70, Tryd.ntmps70
  go_wp2_with fail
  clear hw0
  refine (one_n _).mono ?_
  rintro e w1 ⟨⟨v, rfl, hv⟩, hb⟩
  have newV := Lib.hid (zaz hv sz_0.out)
  have Z_1 := Lib.hid (Row.next Z_0.out (hb))
  have bw_1 := Lib.hid (zaa bw_0.out (hb))
  have sz_1 := Lib.hid (zah sz_0.out (hb))
  clear Z_0 bw_0 sz_0
  have V_0 := newV
  clear newV
  obtain ⟨P1, k1, rfl, _, _, _⟩ := id hv
  clear cZ0_1 cZ1_1 cZ2_1 fZ0_1 fZ1_1 fZ2_1
  obtain ⟨cZ0_2, cZ1_2, cZ2_2⟩ := zad Z_1.out
  obtain ⟨fZ0_2, fZ1_2, fZ2_2⟩ := zaq Z_1.out
  go_wp2_with fail
  refine zbc Tryd.results70 rfl rfl (Row.put3 Z_1.out _ _ _) (retQ (n := 0) (d := 1) (by rw [raw_zero, zbd, zde]) bw_1.out (Nat.le_refl _) (numS_zero (S := New (w.heap.size + 1) _)) V_0.out (by omega) (by omega))
set_option maxHeartbeats 400000 in
theorem clone_q {w : World} {v : Value} {q : Rat} (h : IsQ w (Old w) v q) (hs : Sz q 100000) : Calls Tryd.prog 108 #[v] w (RetQ w q) := by
  obtain ⟨neg, A, cA, B, cB, rfl, Hneg, Hn, Hd⟩ := zam h
  have Hs := Lib.hid hs
  clear h hs
  obtain ⟨w0, hw0, hb0, r, rZ, Hz⟩ := zfp w #[.bool neg, .slice A (lim q.num.natAbs).length cA, .slice B (lim q.den).length cB] #[.bool false, .slice none 0 0, .slice none 0 0] 50 50
  have N_0 := Lib.hid (IsK.stb.next Hn.out hb0)
  have D_0 := Lib.hid (IsK.stb.next Hd.out hb0)
  have R_0 := Lib.hid (r)
  have Z_0 := Lib.hid (rZ)
  have bw_0 := Lib.hid (hb0)
  have sz_0 : Hid (w.heap.size + 2 ≤ w0.heap.size) := Lib.hid (Nat.le_of_eq Hz.out.symm)
  clear r rZ hb0
  obtain ⟨cR0_1, cR1_1, cR2_1⟩ := zad R_0.out
  obtain ⟨cZ0_2, cZ1_2, cZ2_2⟩ := zad Z_0.out
  obtain ⟨fZ0_2, fZ1_2, fZ2_2⟩ := zaq Z_0.out
  go_enter Tryd.func108, Tryd.ntmps108
  go_wp2_with fail
  clear hw0
  have N_1 := Lib.hid (IsK.stb.next N_0.out (zab _))
  have D_1 := Lib.hid (IsK.stb.next D_0.out (zab _))
  have R_1 := Lib.hid (Row.next R_0.out (zab _))
  have Z_1 := Lib.hid (Row.next Z_0.out (zab _))
  have bw_1 := Lib.hid (zaa bw_0.out (zab _))
  have sz_1 := Lib.hid (zah sz_0.out (zab _))
  clear N_0 D_0 R_0 Z_0 bw_0 sz_0
  go_region_held3 (fun w' => w'.cell? ⟨w.heap.size, 0, none⟩ = some (.bool neg) ∧ w'.cell? ⟨w.heap.size, 1, none⟩ = some (.slice A (lim q.num.natAbs).length cA) ∧ w'.cell? ⟨w.heap.size, 2, none⟩ = some (.slice B (lim q.den).length cB))
    (first
      | exact ⟨cR0_1, cR1_1, cR2_1⟩
      | exact ⟨cR0_3, cR1_3, cR2_3⟩
      | exact ⟨cR0_5, cR1_5, cR2_5⟩
      | exact ⟨zar cR0_5 (by omega), zar cR1_5 (by omega), zar cR2_5 (by omega)⟩)
    (first
      | (go_at_call 107; have hc := copy_n (zal N_1.out) (Nat.le_trans Hs.out.1 (by omega)); (with_reducible refine hc.mono ?_); clear hc; rintro e w1 ⟨⟨v1, rfl, hv1⟩, hb⟩; have newV1 := Lib.hid (zaz hv1 sz_1.out); have N_2 := Lib.hid (IsK.stb.next N_1.out (hb)); have D_2 := Lib.hid (IsK.stb.next D_1.out (hb)); have R_2 := Lib.hid (Row.next R_1.out (hb)); have Z_2 := Lib.hid (Row.next Z_1.out (hb)); have bw_2 := Lib.hid (zaa bw_1.out (hb)); have sz_2 := Lib.hid (zah sz_1.out (hb)); clear N_1 D_1 R_1 Z_1 bw_1 sz_1; have V1_0 := newV1; clear newV1; obtain ⟨P1, k1, rfl, _, _, _⟩ := id hv1; clear cR0_1 cR1_1 cR2_1 cZ0_2 cZ1_2 cZ2_2 fZ0_2 fZ1_2 fZ2_2; obtain ⟨cR0_3, cR1_3, cR2_3⟩ := zad R_2.out; obtain ⟨cZ0_4, cZ1_4, cZ2_4⟩ := zad Z_2.out; obtain ⟨fZ0_4, fZ1_4, fZ2_4⟩ := zaq Z_2.out)
      | (go_at_call 107; have hc := copy_n (zal D_2.out) (Nat.le_trans Hs.out.2 (by omega)); (with_reducible refine hc.mono ?_); clear hc; rintro e w2 ⟨⟨v2, rfl, hv2⟩, hb⟩; have newV2 := Lib.hid (zaz hv2 sz_2.out); have N_3 := Lib.hid (IsK.stb.next N_2.out (hb)); have D_3 := Lib.hid (IsK.stb.next D_2.out (hb)); have R_3 := Lib.hid (Row.next R_2.out (hb)); have Z_3 := Lib.hid (Row.next Z_2.out (hb)); have bw_3 := Lib.hid (zaa bw_2.out (hb)); have sz_3 := Lib.hid (zah sz_2.out (hb)); have V1_1 := Lib.hid (IsK.stb.fresh V1_0.out (hb)); clear N_2 D_2 R_2 Z_2 bw_2 sz_2 V1_0; have V2_0 := newV2; clear newV2; obtain ⟨P2, k2, rfl, _, _, _⟩ := id hv2; clear cR0_3 cR1_3 cR2_3 cZ0_4 cZ1_4 cZ2_4 fZ0_4 fZ1_4 fZ2_4; obtain ⟨cR0_5, cR1_5, cR2_5⟩ := zad R_3.out; obtain ⟨cZ0_6, cZ1_6, cZ2_6⟩ := zad Z_3.out; obtain ⟨fZ0_6, fZ1_6, fZ2_6⟩ := zaq Z_3.out))
  go_wp2_with fail
  refine zbc Tryd.results108 rfl rfl (Row.put3 Z_3.out _ _ _) (retQ (by rw [Hneg.out]; rfl) bw_3.out (by omega) V1_1.out V2_0.out (by omega) (by omega))
set_option maxHeartbeats 400000 in
theorem sign_q {w : World} {v : Value} {q : Rat} (h : IsQ w (Old w) v q) : Calls Tryd.prog 61 #[v] w fun e w' => e = .returned (.int .i64 (sgnQ q)) ∧ Below w.heap.size w w' := by
  obtain ⟨neg, A, cA, B, cB, rfl, Hneg, Hn, Hd⟩ := zam h
  clear h
  have hl : (lim q.num.natAbs).length ≤ 9223372036854775807 := by have := (zal Hn.out).length_le; unfold maxLen at this; omega
  by_cases h0 : q = 0
  · have hz : (((lim q.num.natAbs).length : Int) == 0) = true := by rw [h0]; rw [show (0 : Rat).num.natAbs = 0 from rfl, zbd]; rfl
    have Hr : Hid (sgnQ q = 0) := by unfold Hid sgnQ; rw [if_pos h0]
    clear h0
    go_enter Tryd.func61, Tryd.ntmps61
    go_wp2_with fail
    go_ret
    exact ⟨zbb Hr.out.symm, (Below.refl _ _).alloc (Nat.le_refl _) _⟩
  · have hz : (((lim q.num.natAbs).length : Int) == 0) = false := beq_eq_false_iff_ne.2 (by have := zfc h0; have := @lim_nil_iff q.num.natAbs; omega)
    have Hr : Hid (sgnQ q = if neg then -1 else 1) := by unfold Hid sgnQ; rw [if_neg h0, Hneg.out, num_lt]; by_cases h : q < 0 <;> simp [h]
    clear h0
    cases neg
    · go_enter Tryd.func61, Tryd.ntmps61
      go_wp2_with fail
      go_ret
      exact ⟨zbb Hr.out.symm, (Below.refl _ _).alloc (Nat.le_refl _) _⟩
    · go_enter Tryd.func61, Tryd.ntmps61
      go_wp2_with fail
      go_ret
      exact ⟨zbb Hr.out.symm, (Below.refl _ _).alloc (Nat.le_refl _) _⟩
def Grow (S : Nat → Prop) (w w' : World) : Nat → Prop := fun b => S b ∨ (w.heap.size ≤ b ∧ b < w'.heap.size)
theorem grow_new {w w' : World} {v : Value} {n lo : Nat} (h : NumS w' (Grow (New lo w) w w') v n) (hlo : lo ≤ w.heap.size) (hb : w.heap.size ≤ w'.heap.size) : NumS w' (New lo w') v n :=
  IsK.stb.to h (zay fun b hb' => by rcases hb' with h | h; exact ⟨h.1, by have := h.2; omega⟩; exact ⟨by omega, h.2⟩)
theorem grow_old {w w' : World} {v : Value} {n : Nat} (h : NumS w' (Grow (Old w) w w') v n) (hb : w.heap.size ≤ w'.heap.size) : NumS w' (Old w') v n :=
  IsK.stb.to h (zay fun b hb' => by rcases hb' with h | h; exact Nat.lt_of_lt_of_le h hb; exact h.2)
set_option maxHeartbeats 400000 in
theorem over_s {w : World} {va vg : Value} {x y : Nat} {S : Nat → Prop} (ha : NumS w S va x) (hS : ∀ b, S b → b < w.heap.size) (hg : IsN w 0 w.heap.size vg y) (hx : (lim x).length ≤ 4294967296) (hy : (lim y).length ≤ 4294967296) (hy0 : 0 < y) :
    Calls Tryd.prog 119 #[va, vg] w fun e w' => (∃ v, e = .returned v ∧ NumS w' (Grow S w w') v (x / y)) ∧ Below w.heap.size w w' := by
  have Ha := Lib.hid ha
  have Hg := Lib.hid hg
  have Hna := Lib.hid (ha.isL (lo := 0) (hi := w.heap.size) fun b hb => ⟨Nat.zero_le _, hS b hb⟩)
  obtain ⟨A, c, rfl, _, _, _⟩ := ha
  obtain ⟨B, d, rfl, _, _, _⟩ := hg
  by_cases h1 : y = 1
  · have Hy := Lib.hid h1
    have hd : decide (y = 1) = true := decide_eq_true h1
    clear h1
    go_enter Tryd.func119, Tryd.ntmps119
    go_wp2_with fail
    refine (zfl Hg.out).mono ?_
    rw [hd]
    rintro e w1 ⟨rfl, rfl⟩
    go_wp2_with fail
    go_ret
    exact ⟨⟨_, rfl, by rw [Hy.out, Nat.div_one]; exact IsK.stb.to Ha.out (zay fun b hb => .inl hb)⟩, Below.refl _ _⟩
  · have hd : decide (y = 1) = false := decide_eq_false h1
    clear h1
    go_enter Tryd.func119, Tryd.ntmps119
    go_wp2_with fail
    refine (zfl Hg.out).mono ?_
    rw [hd]
    rintro e w1 ⟨rfl, rfl⟩
    go_wp2_with fail
    refine (div_n Hna.out Hg.out (Nat.le_refl _) (Nat.le_refl _) hx hy hy0).mono ?_
    rintro e w1 ⟨⟨vq, vr, rfl, hq, _⟩, hb⟩
    have Hq := Lib.hid hq
    have Hb := Lib.hid hb
    clear hq hb
    go_wp2_with fail
    go_ret
    exact ⟨⟨_, rfl, Hq.out.isK fun b h1 h2 => .inr ⟨h1, h2⟩⟩, Hb.out⟩
theorem over_new {w : World} {va vg : Value} {x y lo : Nat} (ha : NumS w (New lo w) va x) (hlo : lo ≤ w.heap.size) (hg : IsN w 0 w.heap.size vg y) (hx : (lim x).length ≤ 4294967296) (hy : (lim y).length ≤ 4294967296) (hy0 : 0 < y) :
    Calls Tryd.prog 119 #[va, vg] w fun e w' => (∃ v, e = .returned v ∧ NumS w' (New lo w') v (x / y)) ∧ Below w.heap.size w w' :=
  (over_s ha new_old hg hx hy hy0).mono fun e w' ⟨⟨v, he, hv⟩, hb⟩ => ⟨⟨v, he, grow_new hv hlo hb.size⟩, hb⟩
theorem zdd {w : World} {va vg : Value} {x y : Nat} (ha : NumS w (Old w) va x) (hg : IsN w 0 w.heap.size vg y) (hx : (lim x).length ≤ 4294967296) (hy : (lim y).length ≤ 4294967296) (hy0 : 0 < y) :
    Calls Tryd.prog 119 #[va, vg] w fun e w' => (∃ v, e = .returned v ∧ NumS w' (Old w') v (x / y)) ∧ Below w.heap.size w w' :=
  (over_s ha (fun _ h => h) hg hx hy hy0).mono fun e w' ⟨⟨v, he, hv⟩, hb⟩ => ⟨⟨v, he, grow_old hv hb.size⟩, hb⟩
set_option maxHeartbeats 400000 in
theorem words_q (w : World) (neg : Bool) (n d : Nat) (hB : Bru w) (hn0 : n ≠ 0) (hd0 : d ≠ 0) (hn : n < 18446744073709551616) (hd : d < 18446744073709551616) :
    Calls Tryd.prog 124 #[.bool neg, .int .u64 (n : Int), .int .u64 (d : Int)] w (RetQ w (mkRat (sg neg n) d)) := by
  obtain ⟨w0, hw0, hb0, rZ, Hz⟩ := zcf w #[.bool false, .slice none 0 0, .slice none 0 0] 50
  have Z_0 := Lib.hid (rZ)
  have bw_0 := Lib.hid (hb0)
  have sz_0 : Hid (w.heap.size + 1 ≤ w0.heap.size) := Lib.hid (Nat.le_of_eq Hz.out.symm)
  clear rZ hb0
  obtain ⟨cZ0_1, cZ1_1, cZ2_1⟩ := zad Z_0.out
  obtain ⟨fZ0_1, fZ1_1, fZ2_1⟩ := zaq Z_0.out
  have B_0 := Lib.hid (Bru.next hB (bw_0.out))
  obtain ⟨G, hG⟩ : ∃ G, G = Nat.gcd n d := ⟨_, rfl⟩
  have hraw := Lib.hid (raw_ratio (neg := neg) hn0 hd0)
  rw [← hG] at hraw
  have hG1 : 1 ≤ (G : Int) := by have := Nat.gcd_pos_of_pos_left d (by omega : 0 < n); omega
  have HG := Lib.hid hG
  have l1 : n / G ≤ n := Nat.div_le_self _ _
  have l2 : d / G ≤ d := Nat.div_le_self _ _
  clear hG hB
  go_enter Tryd.func124, Tryd.ntmps124
  go_wp2_with fail
  clear hw0
  refine (binary_n n d _ B_0.out hn hd).mono ?_
  rw [← HG.out]
  rintro e w1 ⟨rfl, rfl⟩
  go_wp2_with fail
  have hG0 : ¬ (G : Int) = 0 := by omega
  have hG3 : ¬ G = 0 := by omega
  have i1 : 0 ≤ (n : Int) / (G : Int) := Int.ediv_nonneg (by omega) (by omega)
  have i2 : 0 ≤ (d : Int) / (G : Int) := Int.ediv_nonneg (by omega) (by omega)
  have j1 : (n : Int) / (G : Int) ≤ 18446744073709551615 := by rw [← Int.natCast_ediv]; omega
  have j2 : (d : Int) / (G : Int) ≤ 18446744073709551615 := by rw [← Int.natCast_ediv]; omega
  have k1 : IntKind.u64.wrap ((n : Int) / (G : Int)) = (n : Int) / (G : Int) := IntWalk.u64_in _ (by omega)
  have k2 : IntKind.u64.wrap ((d : Int) / (G : Int)) = (d : Int) / (G : Int) := IntWalk.u64_in _ (by omega)
  have Z_1 := Lib.hid (Row.next Z_0.out (zab _))
  have bw_1 := Lib.hid (zaa bw_0.out (zab _))
  have sz_1 := Lib.hid (zah sz_0.out (zab _))
  have B_1 := Lib.hid (Bru.next B_0.out (zab _))
  clear Z_0 bw_0 sz_0 B_0
  go_region_held3 (fun w' => True)
    (trivial)
    (first
      | (go_at_call 132; have hc := of_i w0.drew ((n : Int) / (G : Int)) i1 j1; (with_reducible refine hc.mono ?_); clear hc; rintro e w1 ⟨⟨v1, rfl, hv1⟩, hb⟩; have newV1 := Lib.hid (zaz hv1 sz_1.out); have Z_2 := Lib.hid (Row.next Z_1.out (hb)); have bw_2 := Lib.hid (zaa bw_1.out (hb)); have sz_2 := Lib.hid (zah sz_1.out (hb)); have B_2 := Lib.hid (Bru.next B_1.out (hb)); clear Z_1 bw_1 sz_1 B_1; have V1_0 := newV1; clear newV1; obtain ⟨P1, k1, rfl, _, _, _⟩ := id hv1; clear cZ0_1 cZ1_1 cZ2_1 fZ0_1 fZ1_1 fZ2_1; obtain ⟨cZ0_2, cZ1_2, cZ2_2⟩ := zad Z_2.out; obtain ⟨fZ0_2, fZ1_2, fZ2_2⟩ := zaq Z_2.out)
      | (go_at_call 132; have hc := of_i w1 ((d : Int) / (G : Int)) i2 j2; (with_reducible refine hc.mono ?_); clear hc; rintro e w2 ⟨⟨v2, rfl, hv2⟩, hb⟩; have newV2 := Lib.hid (zaz hv2 sz_2.out); have Z_3 := Lib.hid (Row.next Z_2.out (hb)); have bw_3 := Lib.hid (zaa bw_2.out (hb)); have sz_3 := Lib.hid (zah sz_2.out (hb)); have B_3 := Lib.hid (Bru.next B_2.out (hb)); have V1_1 := Lib.hid (IsK.stb.fresh V1_0.out (hb)); clear Z_2 bw_2 sz_2 B_2 V1_0; have V2_0 := newV2; clear newV2; obtain ⟨P2, k2, rfl, _, _, _⟩ := id hv2; clear cZ0_2 cZ1_2 cZ2_2 fZ0_2 fZ1_2 fZ2_2; obtain ⟨cZ0_3, cZ1_3, cZ2_3⟩ := zad Z_3.out; obtain ⟨fZ0_3, fZ1_3, fZ2_3⟩ := zaq Z_3.out))
  go_wp2_with fail
  refine zbc Tryd.results124 rfl rfl (Row.put3 Z_3.out _ _ _) (retQ (by rw [show ((n : Int) / (G : Int)).toNat = n / G from by rw [← Int.natCast_ediv]; rfl, show ((d : Int) / (G : Int)).toNat = d / G from by rw [← Int.natCast_ediv]; rfl]; exact hraw.out) bw_3.out (by omega) V1_1.out V2_0.out (by omega) (by omega))
theorem below_trans' {w w1 w2 : World} (h : Below w.heap.size w w1) (hb : Below w1.heap.size w1 w2) : Below w.heap.size w w2 := h.trans (hb.mono h.size)
set_option maxRecDepth 100000 in
set_option maxHeartbeats 1000000 in
theorem add_ge {w : World} {va vb : Value} {x y : Nat} {lo hi lo' hi' : Nat} (ha : IsN w lo hi va x) (hb : IsN w lo' hi' vb y) (hi1 : hi ≤ w.heap.size) (hi2 : hi' ≤ w.heap.size) (hlt : (lim y).length ≤ (lim x).length) (hM : (lim x).length ≤ 4294967296) :
    Calls Tryd.prog 138 #[va, vb] w fun e w' => (∃ v, e = .returned v ∧ IsN w' w.heap.size w'.heap.size v (x + y)) ∧ Below w.heap.size w w' := by
  obtain ⟨A, c, rfl, _, _, hA⟩ := ha
  obtain ⟨B, d, rfl, _, _, hB⟩ := hb
  have hpw : Hid (∀ k, k < (lim x).length → pw k ≤ x + y) := by
    intro k hk
    have := zfe (x := x) (k := k) (by omega); omega
  generalize hla : lim x = a at *
  generalize hlb : lim y = b at *
  have Hal : Hid (Lo a ∧ val a = x) := by rw [Hid, ← hla]; exact ⟨zbh x, zbf x⟩
  have Hbl : Hid (Lo b ∧ val b = y) := by rw [Hid, ← hlb]; exact ⟨zbh y, zbf y⟩
  clear hla hlb
  generalize hBs : w.heap.size = bs at *
  have HB := Lib.hid hBs; clear hBs
  go_enter Tryd.func138, Tryd.ntmps138
  go_wp2_with (at_make; refine wp_make0 (base := bs) elN rfl _ _ rfl (a.length + 1) rfl rfl (by omega) (by omega) (by have := HB.out; omega) ?_; intro v0 w1 hown0 hb1 hz1)
  have hb0 : Below bs w w1 := by rw [← HB.out]; exact hb1
  clear hb1
  go_loopw [5, 6, 23] (fun v cy i wr => ∃ (k : Nat) (L : List Nat) (q : Int), k ≤ a.length ∧ i = .int .i64 (k : Int) ∧ cy = .int .u32 q ∧ 0 ≤ q ∧ q ≤ 1 ∧ Own wr bs 94 v (cel .u32 L) ∧ Below bs w wr ∧
      Hid (L.length = k ∧ Lo L ∧ (val L : Int) + q * pw k = val (a.take k) + val (b.take k))) (fun _ _ i _ => a.length - (intOf i).toNat)
  case atStart => exact ⟨0, [], 0, by omega, rfl, rfl, by omega, by omega, hown0, hb0, rfl, lo_nil, by simp [val]⟩
  case round =>
    obtain ⟨k, L, q, hk, rfl, rfl, hq0, hq1, hown, hbw, hrel⟩ := hrel
    have hBw : bs ≤ wr.heap.size := by have := hbw.size; have := HB.out; omega
    have hkc : k ≤ 4294967297 := by omega
    have hlen : Hid ((cel .u32 L).length ≤ 4294967297) := by rw [Hid, zbo, hrel.out.1]; omega
    clear hb0 hown0 hz1
    rcases Nat.lt_or_ge k a.length with hka | hka
    · obtain ⟨ba, oa, rfl, _, _, hca⟩ := (hA.below hbw hi1) (zbm (j := k) hka)
      obtain ⟨x1, hx1, hx10, hx11, hx1c⟩ := zbl (j := k) Hal.out.1 hca hka
      clear hca
      rcases Nat.lt_or_ge k b.length with hkb | hkb
      · obtain ⟨bb, ob, rfl, _, _, hcb⟩ := (hB.below hbw hi2) (zbm (j := k) hkb)
        obtain ⟨y1, hy1, hy10, hy11, hy1c⟩ := zbl (j := k) Hbl.out.1 hcb hkb
        clear hcb
        rcases Int.lt_or_le 999999999 (x1 + q + y1) with hs | hs
        · go_wp2_with (at_builtin; refine zco elN rfl _ _ rfl rfl hown rfl rfl (by have := hlen.out; omega) hBw ?_; intro v1 w2 hown1 hbw1 hz1)
          go_roundw
          case rel =>
            rw [zbw .u32 L (x1 + q + y1 - 1000000000).toNat _ (by omega)] at hown1
            exact ⟨k + 1, _, 1, by omega, by go_num, rfl, by omega, by omega, hown1, hbw.trans hbw1, by rw [List.length_append]; simp [hrel.out.1], zcw hrel.out.2.1 (by omega), zct (c' := 1) hrel.out.1 hx1.out hy1.out (by omega) (by omega) hrel.out.2.2⟩
          case measure => simp [intOf]; omega
        · go_wp2_with (at_builtin; refine zco elN rfl _ _ rfl rfl hown rfl rfl (by have := hlen.out; omega) hBw ?_; intro v1 w2 hown1 hbw1 hz1)
          go_roundw
          case rel =>
            rw [zbw .u32 L (x1 + q + y1).toNat _ (by omega)] at hown1
            exact ⟨k + 1, _, 0, by omega, by go_num, rfl, by omega, by omega, hown1, hbw.trans hbw1, by rw [List.length_append]; simp [hrel.out.1], zcw hrel.out.2.1 (by omega), zct (c' := 0) hrel.out.1 hx1.out hy1.out (by omega) (by omega) hrel.out.2.2⟩
          case measure => simp [intOf]; omega
      · rcases Int.lt_or_le 999999999 (x1 + q) with hs | hs
        · go_wp2_with (at_builtin; refine zco elN rfl _ _ rfl rfl hown rfl rfl (by have := hlen.out; omega) hBw ?_; intro v1 w2 hown1 hbw1 hz1)
          go_roundw
          case rel =>
            rw [zbw .u32 L (x1 + q - 1000000000).toNat _ (by omega)] at hown1
            exact ⟨k + 1, _, 1, by omega, by go_num, rfl, by omega, by omega, hown1, hbw.trans hbw1, by rw [List.length_append]; simp [hrel.out.1], zcw hrel.out.2.1 (by omega), zct (c' := 1) hrel.out.1 hx1.out (show (0 : Int) = _ by rw [zck hkb]; rfl) (by omega) (by omega) hrel.out.2.2⟩
          case measure => simp [intOf]; omega
        · go_wp2_with (at_builtin; refine zco elN rfl _ _ rfl rfl hown rfl rfl (by have := hlen.out; omega) hBw ?_; intro v1 w2 hown1 hbw1 hz1)
          go_roundw
          case rel =>
            rw [zbw .u32 L (x1 + q).toNat _ (by omega)] at hown1
            exact ⟨k + 1, _, 0, by omega, by go_num, rfl, by omega, by omega, hown1, hbw.trans hbw1, by rw [List.length_append]; simp [hrel.out.1], zcw hrel.out.2.1 (by omega), zct (c' := 0) hrel.out.1 hx1.out (show (0 : Int) = _ by rw [zck hkb]; rfl) (by omega) (by omega) hrel.out.2.2⟩
          case measure => simp [intOf]; omega
    · obtain rfl : k = a.length := by omega
      have hV : Hid ((val L : Int) + q * pw a.length = x + y) := by
        have := hrel.out.2.2
        rw [zav (Nat.le_refl _), zav (by omega), Hal.out.2, Hbl.out.2] at this
        unfold Hid
        omega
      rcases Int.lt_or_le 0 q with hqp | hqz
      · obtain rfl : q = 1 := by omega
        have hfin : Hid (lim (x + y) = L ++ [1]) := by
          have h1 : val (L ++ [1]) = x + y := by rw [zbx, hrel.out.1, zfi, zez]; have := hV.out; omega
          rw [Hid, ← h1]
          refine zet (zcw hrel.out.2.1 (by omega)) (.inr ?_)
          rw [List.length_append, hrel.out.1, zbx, hrel.out.1, zfi, zez]
          simp
        go_wp2_with (at_builtin; refine zco elN rfl _ _ rfl rfl hown rfl rfl (by have := hlen.out; omega) hBw ?_; intro v1 w2 hown1 hbw1 hz1)
        go_ret
        refine ⟨⟨_, rfl, ?_⟩, hbw.trans hbw1⟩
        unfold IsN
        rw [hfin.out]
        rw [zbw .u32 L 1 _ (by omega)] at hown1
        exact Own.isL hown1
      · obtain rfl : q = 0 := by omega
        have hfin : Hid (lim (x + y) = L) := by
          have h1 : val L = x + y := by have := hV.out; omega
          rw [Hid, ← h1]
          refine zet hrel.out.2.1 ?_
          rcases Nat.eq_zero_or_pos a.length with h0 | h0
          · exact .inl (List.eq_nil_of_length_eq_zero (by rw [hrel.out.1]; exact h0))
          · exact .inr (by rw [hrel.out.1, h1]; exact hpw.out _ (by omega))
        go_wp2
        go_ret
        refine ⟨⟨_, rfl, ?_⟩, hbw⟩
        unfold IsN
        rw [hfin.out]
        exact Own.isL hown
set_option maxRecDepth 100000 in
set_option maxHeartbeats 1000000 in
theorem add_lt {w : World} {va vb : Value} {x y : Nat} {lo hi lo' hi' : Nat} (ha : IsN w lo hi va x) (hb : IsN w lo' hi' vb y) (hi1 : hi ≤ w.heap.size) (hi2 : hi' ≤ w.heap.size) (hlt : (lim x).length < (lim y).length) (hM : (lim y).length ≤ 4294967296) :
    Calls Tryd.prog 138 #[va, vb] w fun e w' => (∃ v, e = .returned v ∧ IsN w' w.heap.size w'.heap.size v (x + y)) ∧ Below w.heap.size w w' := by
  obtain ⟨A, c, rfl, _, _, hA⟩ := ha
  obtain ⟨B, d, rfl, _, _, hB⟩ := hb
  have hpw : Hid (∀ k, k < (lim y).length → pw k ≤ x + y) := by
    intro k hk
    have := zfe (x := y) (k := k) (by omega); omega
  generalize hla : lim x = a at *
  generalize hlb : lim y = b at *
  have Hal : Hid (Lo a ∧ val a = x) := by rw [Hid, ← hla]; exact ⟨zbh x, zbf x⟩
  have Hbl : Hid (Lo b ∧ val b = y) := by rw [Hid, ← hlb]; exact ⟨zbh y, zbf y⟩
  clear hla hlb
  generalize hBs : w.heap.size = bs at *
  have HB := Lib.hid hBs; clear hBs
  go_enter Tryd.func138, Tryd.ntmps138
  go_wp2_with (at_make; refine wp_make0 (base := bs) elN rfl _ _ rfl (b.length + 1) rfl rfl (by omega) (by omega) (by have := HB.out; omega) ?_; intro v0 w1 hown0 hb1 hz1)
  have hb0 : Below bs w w1 := by rw [← HB.out]; exact hb1
  clear hb1
  go_loopw [5, 6, 23] (fun v cy i wr => ∃ (k : Nat) (L : List Nat) (q : Int), k ≤ b.length ∧ i = .int .i64 (k : Int) ∧ cy = .int .u32 q ∧ 0 ≤ q ∧ q ≤ 1 ∧ Own wr bs 94 v (cel .u32 L) ∧ Below bs w wr ∧
      Hid (L.length = k ∧ Lo L ∧ (val L : Int) + q * pw k = val (b.take k) + val (a.take k))) (fun _ _ i _ => b.length - (intOf i).toNat)
  case atStart => exact ⟨0, [], 0, by omega, rfl, rfl, by omega, by omega, hown0, hb0, rfl, lo_nil, by simp [val]⟩
  case round =>
    obtain ⟨k, L, q, hk, rfl, rfl, hq0, hq1, hown, hbw, hrel⟩ := hrel
    have hBw : bs ≤ wr.heap.size := by have := hbw.size; have := HB.out; omega
    have hkc : k ≤ 4294967297 := by omega
    have hlen : Hid ((cel .u32 L).length ≤ 4294967297) := by rw [Hid, zbo, hrel.out.1]; omega
    clear hb0 hown0 hz1
    rcases Nat.lt_or_ge k b.length with hka | hka
    · obtain ⟨ba, oa, rfl, _, _, hca⟩ := (hB.below hbw hi2) (zbm (j := k) hka)
      obtain ⟨x1, hx1, hx10, hx11, hx1c⟩ := zbl (j := k) Hbl.out.1 hca hka
      clear hca
      rcases Nat.lt_or_ge k a.length with hkb | hkb
      · obtain ⟨bb, ob, rfl, _, _, hcb⟩ := (hA.below hbw hi1) (zbm (j := k) hkb)
        obtain ⟨y1, hy1, hy10, hy11, hy1c⟩ := zbl (j := k) Hal.out.1 hcb hkb
        clear hcb
        rcases Int.lt_or_le 999999999 (x1 + q + y1) with hs | hs
        · go_wp2_with (at_builtin; refine zco elN rfl _ _ rfl rfl hown rfl rfl (by have := hlen.out; omega) hBw ?_; intro v1 w2 hown1 hbw1 hz1)
          go_roundw
          case rel =>
            rw [zbw .u32 L (x1 + q + y1 - 1000000000).toNat _ (by omega)] at hown1
            exact ⟨k + 1, _, 1, by omega, by go_num, rfl, by omega, by omega, hown1, hbw.trans hbw1, by rw [List.length_append]; simp [hrel.out.1], zcw hrel.out.2.1 (by omega), zct (c' := 1) hrel.out.1 hx1.out hy1.out (by omega) (by omega) hrel.out.2.2⟩
          case measure => simp [intOf]; omega
        · go_wp2_with (at_builtin; refine zco elN rfl _ _ rfl rfl hown rfl rfl (by have := hlen.out; omega) hBw ?_; intro v1 w2 hown1 hbw1 hz1)
          go_roundw
          case rel =>
            rw [zbw .u32 L (x1 + q + y1).toNat _ (by omega)] at hown1
            exact ⟨k + 1, _, 0, by omega, by go_num, rfl, by omega, by omega, hown1, hbw.trans hbw1, by rw [List.length_append]; simp [hrel.out.1], zcw hrel.out.2.1 (by omega), zct (c' := 0) hrel.out.1 hx1.out hy1.out (by omega) (by omega) hrel.out.2.2⟩
          case measure => simp [intOf]; omega
      · rcases Int.lt_or_le 999999999 (x1 + q) with hs | hs
        · go_wp2_with (at_builtin; refine zco elN rfl _ _ rfl rfl hown rfl rfl (by have := hlen.out; omega) hBw ?_; intro v1 w2 hown1 hbw1 hz1)
          go_roundw
          case rel =>
            rw [zbw .u32 L (x1 + q - 1000000000).toNat _ (by omega)] at hown1
            exact ⟨k + 1, _, 1, by omega, by go_num, rfl, by omega, by omega, hown1, hbw.trans hbw1, by rw [List.length_append]; simp [hrel.out.1], zcw hrel.out.2.1 (by omega), zct (c' := 1) hrel.out.1 hx1.out (show (0 : Int) = _ by rw [zck hkb]; rfl) (by omega) (by omega) hrel.out.2.2⟩
          case measure => simp [intOf]; omega
        · go_wp2_with (at_builtin; refine zco elN rfl _ _ rfl rfl hown rfl rfl (by have := hlen.out; omega) hBw ?_; intro v1 w2 hown1 hbw1 hz1)
          go_roundw
          case rel =>
            rw [zbw .u32 L (x1 + q).toNat _ (by omega)] at hown1
            exact ⟨k + 1, _, 0, by omega, by go_num, rfl, by omega, by omega, hown1, hbw.trans hbw1, by rw [List.length_append]; simp [hrel.out.1], zcw hrel.out.2.1 (by omega), zct (c' := 0) hrel.out.1 hx1.out (show (0 : Int) = _ by rw [zck hkb]; rfl) (by omega) (by omega) hrel.out.2.2⟩
          case measure => simp [intOf]; omega
    · obtain rfl : k = b.length := by omega
      have hV : Hid ((val L : Int) + q * pw b.length = x + y) := by
        have := hrel.out.2.2
        rw [zav (Nat.le_refl _), zav (by omega), Hbl.out.2, Hal.out.2] at this
        unfold Hid
        omega
      rcases Int.lt_or_le 0 q with hqp | hqz
      · obtain rfl : q = 1 := by omega
        have hfin : Hid (lim (x + y) = L ++ [1]) := by
          have h1 : val (L ++ [1]) = x + y := by rw [zbx, hrel.out.1, zfi, zez]; have := hV.out; omega
          rw [Hid, ← h1]
          refine zet (zcw hrel.out.2.1 (by omega)) (.inr ?_)
          rw [List.length_append, hrel.out.1, zbx, hrel.out.1, zfi, zez]
          simp
        go_wp2_with (at_builtin; refine zco elN rfl _ _ rfl rfl hown rfl rfl (by have := hlen.out; omega) hBw ?_; intro v1 w2 hown1 hbw1 hz1)
        go_ret
        refine ⟨⟨_, rfl, ?_⟩, hbw.trans hbw1⟩
        unfold IsN
        rw [hfin.out]
        rw [zbw .u32 L 1 _ (by omega)] at hown1
        exact Own.isL hown1
      · obtain rfl : q = 0 := by omega
        have hfin : Hid (lim (x + y) = L) := by
          have h1 : val L = x + y := by have := hV.out; omega
          rw [Hid, ← h1]
          refine zet hrel.out.2.1 ?_
          rcases Nat.eq_zero_or_pos b.length with h0 | h0
          · exact .inl (List.eq_nil_of_length_eq_zero (by rw [hrel.out.1]; exact h0))
          · exact .inr (by rw [hrel.out.1, h1]; exact hpw.out _ (by omega))
        go_wp2
        go_ret
        refine ⟨⟨_, rfl, ?_⟩, hbw⟩
        unfold IsN
        rw [hfin.out]
        exact Own.isL hown
theorem add_n {w : World} {va vb : Value} {x y : Nat} {lo hi lo' hi' : Nat} (ha : IsN w lo hi va x) (hb : IsN w lo' hi' vb y) (hi1 : hi ≤ w.heap.size) (hi2 : hi' ≤ w.heap.size) (hx : (lim x).length ≤ 4294967296) (hy : (lim y).length ≤ 4294967296) :
    Calls Tryd.prog 138 #[va, vb] w fun e w' => (∃ v, e = .returned v ∧ IsN w' w.heap.size w'.heap.size v (x + y)) ∧ Below w.heap.size w w' := by
  rcases Nat.lt_or_ge (lim x).length (lim y).length with h | h
  · exact add_lt ha hb hi1 hi2 h hy
  · exact add_ge ha hb hi1 hi2 h hx
theorem len_max {w : World} {v : Value} {n : Nat} (h : IsN w 0 w.heap.size v n) : (lim n).length ≤ 9223372036854775807 := by have := h.length_le; unfold maxLen at this; omega
theorem len_zero {n : Nat} (h : n = 0) : (((lim n).length : Int) == 0) = true := by rw [h, zbd]; rfl
theorem zeb {n : Nat} (h : n ≠ 0) : (((lim n).length : Int) == 0) = false := beq_eq_false_iff_ne.2 (by have := @lim_nil_iff n; omega)
theorem len_gt {n : Nat} (h : n ≠ 0) : 0 < (lim n).length := by have := @lim_nil_iff n; omega
def RetS (S : Nat → Prop) (w : World) (q : Rat) (e : Ending) (w' : World) : Prop := (∃ v, e = .returned v ∧ IsQ w' S v q) ∧ Below w.heap.size w w'
set_option maxRecDepth 100000 in
set_option maxHeartbeats 400000 in
theorem opposite_s {w : World} {v : Value} {q p : Rat} {S : Nat → Prop} (h : IsQ w S v q) (hS : ∀ b, S b → b < w.heap.size) (hp : p = -q) : Calls Tryd.prog 100 #[v] w (RetS S w p) := by
  subst hp
  have hl : (lim q.num.natAbs).length ≤ 9223372036854775807 := len_max (zal (IsK.stb.to (zam h).choose_spec.choose_spec.choose_spec.choose_spec.choose_spec.2.2.1.out (zay hS)))
  obtain ⟨neg, A, cA, B, cB, rfl, Hneg, Hn, Hd⟩ := zam h
  have hr := raw_neg_q q
  rw [show raw q = ⟨neg, lim q.num.natAbs, lim q.den⟩ from by rw [Hneg.out]; rfl] at hr
  clear h
  obtain ⟨w0, hw0, hb0, rA, rZ, Hz⟩ := zfp w #[.bool neg, .slice A (lim q.num.natAbs).length cA, .slice B (lim q.den).length cB] #[.bool false, .slice none 0 0, .slice none 0 0] 50 50
  have n1 := IsK.stb.to Hn.out (same_below (S := S) hb0 hS)
  have d1 := IsK.stb.to Hd.out (same_below (S := S) hb0 hS)
  obtain ⟨a0, a1, a2⟩ := zad rA
  obtain ⟨z0, z1, z2⟩ := zad rZ
  obtain ⟨f0, f1, f2⟩ := zaq rZ
  have Rz := Lib.hid rZ
  have Hb := Lib.hid hb0
  have HN := Lib.hid n1
  have HD := Lib.hid d1
  clear rA rZ hb0 n1 d1
  have hfin : ∀ s : Bool, raw (-q) = ⟨s, lim q.num.natAbs, lim q.den⟩ → RetS S w (-q) (.returned (.agg #[.bool s, .slice A (lim q.num.natAbs).length cA, .slice B (lim q.den).length cB])) (put3 w0 (w.heap.size + 1) (.bool s) (.slice A (lim q.num.natAbs).length cA) (.slice B (lim q.den).length cB)) := fun s hs =>
    ⟨⟨_, rfl, isQ_mk hs (IsK.stb.to HN.out (zcu fun b hb => ⟨by have := hS b hb; omega, hb⟩)) (IsK.stb.to HD.out (zcu fun b hb => ⟨by have := hS b hb; omega, hb⟩))⟩, zdb Hb.out (by omega) _ _ _⟩
  have Hfin := Lib.hid hfin
  have Hr := Lib.hid hr
  have HS := Lib.hid hS
  clear hfin hr hS
  cases neg with
  | true =>
    go_enter Tryd.func100, Tryd.ntmps100
    go_wp2_with fail
    refine zbc Tryd.results100 rfl rfl (Row.put3 Rz.out _ _ _) (Hfin.out false (by rw [Hr.out]; rfl))
  | false =>
    go_enter Tryd.func100, Tryd.ntmps100
    go_wp2_with fail
    refine zbc Tryd.results100 rfl rfl (Row.put3 Rz.out _ _ _) (Hfin.out _ ?_)
    rw [Hr.out]
    congr 1
    rw [Bool.eq_iff_iff]
    have h1 := @num_zero_iff q
    have h2 := @lim_nil_iff q.num.natAbs
    simp
    rw [← h1, ← h2]
    omega
theorem isQ_oldS {w w' : World} {v : Value} {q : Rat} (h : IsQ w' (Old w) v q) (hb : Below w.heap.size w w') : IsQ w' (Old w') v q := IsQ.stb.to h (zay fun b h => Nat.lt_of_lt_of_le h hb.size)
set_option maxHeartbeats 400000 in
theorem negative_q {w : World} {v : Value} {q p : Rat} (h : IsQ w (Old w) v q) (hs : Sz q 100000) (hp : p = -q) : Calls Tryd.prog 73 #[v] w (RetQ w p) := by
  have HQ := Lib.hid h
  obtain ⟨neg, A, cA, B, cB, rfl, Hneg, Hn, Hd⟩ := zam h
  have Hs : Hid (Sz p 100000) := by rw [hp]; exact hs.neg
  have Hp := Lib.hid hp
  clear h hs hp
  obtain ⟨w0, hw0, hb0, r, rZ, Hz⟩ := zfp w #[.bool neg, .slice A (lim q.num.natAbs).length cA, .slice B (lim q.den).length cB] #[.bool false, .slice none 0 0, .slice none 0 0] 50 50
  have Q_0 := Lib.hid (IsQ.stb.next HQ.out hb0)
  have R_0 := Lib.hid (r)
  have Z_0 := Lib.hid (rZ)
  have bw_0 := Lib.hid (hb0)
  have sz_0 : Hid (w.heap.size + 2 ≤ w0.heap.size) := Lib.hid (Nat.le_of_eq Hz.out.symm)
  clear r rZ hb0
  obtain ⟨cR0_1, cR1_1, cR2_1⟩ := zad R_0.out
  obtain ⟨cZ0_2, cZ1_2, cZ2_2⟩ := zad Z_0.out
  obtain ⟨fZ0_2, fZ1_2, fZ2_2⟩ := zaq Z_0.out
  go_enter Tryd.func73, Tryd.ntmps73
  go_wp2_with fail
  clear hw0
  refine (opposite_s Q_0.out (fun _ h => h) Hp.out).mono ?_
  rintro e w1 ⟨⟨v1, rfl, hv⟩, hb⟩
  have newV := Lib.hid (isQ_oldS hv hb)
  have Q_1 := Lib.hid (IsQ.stb.next Q_0.out (hb))
  have R_1 := Lib.hid (Row.next R_0.out (hb))
  have Z_1 := Lib.hid (Row.next Z_0.out (hb))
  have bw_1 := Lib.hid (zaa bw_0.out (hb))
  have sz_1 := Lib.hid (zah sz_0.out (hb))
  clear Q_0 R_0 Z_0 bw_0 sz_0
  have V_0 := newV
  clear newV
  obtain ⟨s1, P1, k1, O1, l1, rfl, _, _, _⟩ := zam hv
  clear cR0_1 cR1_1 cR2_1 cZ0_2 cZ1_2 cZ2_2 fZ0_2 fZ1_2 fZ2_2
  obtain ⟨cR0_3, cR1_3, cR2_3⟩ := zad R_1.out
  obtain ⟨cZ0_4, cZ1_4, cZ2_4⟩ := zad Z_1.out
  obtain ⟨fZ0_4, fZ1_4, fZ2_4⟩ := zaq Z_1.out
  go_wp2_with fail
  refine (clone_q V_0.out Hs.out).mono ?_
  rintro e w2 ⟨⟨v2, rfl, hv2⟩, hb⟩
  have newV2 := Lib.hid (IsQ.stb.le hv2 sz_1.out)
  have Q_2 := Lib.hid (IsQ.stb.next Q_1.out (hb))
  have R_2 := Lib.hid (Row.next R_1.out (hb))
  have Z_2 := Lib.hid (Row.next Z_1.out (hb))
  have bw_2 := Lib.hid (zaa bw_1.out (hb))
  have sz_2 := Lib.hid (zah sz_1.out (hb))
  have V_1 := Lib.hid (IsQ.stb.next V_0.out (hb))
  clear Q_1 R_1 Z_1 bw_1 sz_1 V_0
  have V2_0 := newV2
  clear newV2
  obtain ⟨s2, P2, k2, O2, l2, rfl, _, _, _⟩ := zam hv2
  clear cR0_3 cR1_3 cR2_3 cZ0_4 cZ1_4 cZ2_4 fZ0_4 fZ1_4 fZ2_4
  obtain ⟨cR0_5, cR1_5, cR2_5⟩ := zad R_2.out
  obtain ⟨cZ0_6, cZ1_6, cZ2_6⟩ := zad Z_2.out
  obtain ⟨fZ0_6, fZ1_6, fZ2_6⟩ := zaq Z_2.out
  go_wp2_with fail
  refine zbc Tryd.results73 rfl rfl (Row.put3 Z_2.out _ _ _) (zfm V2_0.out bw_2.out (by omega) (by omega))
def fitsQ (q : Rat) : Bool := decide ((lim q.num.natAbs).length ≤ 1024 ∧ (lim q.den).length ≤ 1024)
theorem fitsQ_true {q : Rat} : fitsQ q = true ↔ Sz q 1024 := by unfold fitsQ Sz; exact decide_eq_true_iff
set_option maxHeartbeats 400000 in
theorem fits_q {w : World} {v : Value} {q : Rat} (h : IsQ w (Old w) v q) : Calls Tryd.prog 60 #[v] w fun e w' => e = .returned (.bool (fitsQ q)) ∧ Below w.heap.size w w' := by
  obtain ⟨neg, A, cA, B, cB, rfl, Hneg, Hn, Hd⟩ := zam h
  have hl := len_max (zal Hn.out)
  have hl2 := len_max (zal Hd.out)
  clear h
  by_cases h1 : (lim q.num.natAbs).length ≤ 1024
  · go_enter Tryd.func60, Tryd.ntmps60
    go_wp2_with fail
    go_ret
    refine ⟨zfg ?_, (Below.refl _ _).alloc (Nat.le_refl _) _⟩
    rw [Bool.eq_iff_iff, fitsQ_true]
    unfold Sz
    simp
    omega
  · have h2 : 1024 < (lim q.num.natAbs).length := by omega
    clear h1
    go_enter Tryd.func60, Tryd.ntmps60
    go_wp2_with fail
    go_ret
    refine ⟨zfg ?_, (Below.refl _ _).alloc (Nat.le_refl _) _⟩
    rw [Bool.eq_iff_iff, fitsQ_true]
    unfold Sz
    simp
    omega
def OneL (qa qb : Rat) : Prop := (lim qa.num.natAbs).length = 1 ∧ (lim qa.den).length = 1 ∧ (lim qb.num.natAbs).length = 1 ∧ (lim qb.den).length = 1
theorem oneLimb_q {w : World} {va vb : Value} {qa qb : Rat} (ha : IsQ w (Old w) va qa) (hb : IsQ w (Old w) vb qb) : Calls Tryd.prog 116 #[va, vb] w fun e w' => (∃ b : Bool, e = .returned (.bool b) ∧ (b = true ↔ OneL qa qb)) ∧ Below w.heap.size w w' := by
  obtain ⟨nega, Aa, cAa, Ba, cBa, rfl, Hnega, Hna, Hda⟩ := zam ha
  obtain ⟨negb, Ab, cAb, Bb, cBb, rfl, Hnegb, Hnb, Hdb⟩ := zam hb
  have l1 := len_max (zal Hna.out)
  have l2 := len_max (zal Hda.out)
  have l3 := len_max (zal Hnb.out)
  have l4 := len_max (zal Hdb.out)
  clear ha hb
  obtain ⟨w0, hw0, hb0, ra, rb, Hz⟩ := zfp w #[.bool nega, .slice Aa (lim qa.num.natAbs).length cAa, .slice Ba (lim qa.den).length cBa] #[.bool negb, .slice Ab (lim qb.num.natAbs).length cAb, .slice Bb (lim qb.den).length cBb] 50 50
  obtain ⟨a0, a1, a2⟩ := zad ra
  obtain ⟨b0, b1, b2⟩ := zad rb
  have Hb := Lib.hid hb0
  clear ra rb hb0
  by_cases h0 : (lim qa.num.natAbs).length = 1
  case neg =>
    have e0 : ((((lim qa.num.natAbs).length : Nat) : Int) == 1) = false := beq_eq_false_iff_ne.2 (by omega)
    have Hno : Hid (¬ OneL qa qb) := fun h => h0 h.1
    clear h0
    go_enter Tryd.func116, Tryd.ntmps116
    go_wp2_with fail
    go_ret
    exact ⟨⟨false, rfl, ⟨fun h => Bool.noConfusion h, fun h => absurd h Hno.out⟩⟩, Hb.out⟩
  have e0 : ((((lim qa.num.natAbs).length : Nat) : Int) == 1) = true := beq_iff_eq.2 (by omega)
  by_cases h1 : (lim qa.den).length = 1
  case neg =>
    have e1 : ((((lim qa.den).length : Nat) : Int) == 1) = false := beq_eq_false_iff_ne.2 (by omega)
    have Hno : Hid (¬ OneL qa qb) := fun h => h1 h.2.1
    clear h1 h0
    go_enter Tryd.func116, Tryd.ntmps116
    go_wp2_with fail
    go_ret
    exact ⟨⟨false, rfl, ⟨fun h => Bool.noConfusion h, fun h => absurd h Hno.out⟩⟩, Hb.out⟩
  have e1 : ((((lim qa.den).length : Nat) : Int) == 1) = true := beq_iff_eq.2 (by omega)
  by_cases h2 : (lim qb.num.natAbs).length = 1
  case neg =>
    have e2 : ((((lim qb.num.natAbs).length : Nat) : Int) == 1) = false := beq_eq_false_iff_ne.2 (by omega)
    have Hno : Hid (¬ OneL qa qb) := fun h => h2 h.2.2.1
    clear h2 h0 h1
    go_enter Tryd.func116, Tryd.ntmps116
    go_wp2_with fail
    go_ret
    exact ⟨⟨false, rfl, ⟨fun h => Bool.noConfusion h, fun h => absurd h Hno.out⟩⟩, Hb.out⟩
  have e2 : ((((lim qb.num.natAbs).length : Nat) : Int) == 1) = true := beq_iff_eq.2 (by omega)
  by_cases h3 : (lim qb.den).length = 1
  case neg =>
    have e3 : ((((lim qb.den).length : Nat) : Int) == 1) = false := beq_eq_false_iff_ne.2 (by omega)
    have Hno : Hid (¬ OneL qa qb) := fun h => h3 h.2.2.2
    clear h3 h0 h1 h2
    go_enter Tryd.func116, Tryd.ntmps116
    go_wp2_with fail
    go_ret
    exact ⟨⟨false, rfl, ⟨fun h => Bool.noConfusion h, fun h => absurd h Hno.out⟩⟩, Hb.out⟩
  have e3 : ((((lim qb.den).length : Nat) : Int) == 1) = true := beq_iff_eq.2 (by omega)
  have Hyes : Hid (OneL qa qb) := ⟨h0, h1, h2, h3⟩
  clear h0 h1 h2 h3
  go_enter Tryd.func116, Tryd.ntmps116
  go_wp2_with fail
  go_ret
  exact ⟨⟨true, rfl, ⟨fun _ => Hyes.out, fun _ => rfl⟩⟩, Hb.out⟩
set_option maxHeartbeats 400000 in
theorem coprime_n {w : World} {va vb : Value} {x y : Nat} (ha : IsN w 0 w.heap.size va x) (hb : IsN w 0 w.heap.size vb y) (hB : Bru w) (hx9 : (lim x).length ≤ 4294967296) (hy9 : (lim y).length ≤ 4294967296) :
    Calls Tryd.prog 123 #[va, vb] w fun e w' => (∃ b : Bool, e = .returned (.bool b) ∧ (b = true ↔ Nat.gcd x y = 1)) ∧ Below w.heap.size w w' := by
  have Ha := Lib.hid ha
  have Hb := Lib.hid hb
  have HB := Lib.hid hB
  obtain ⟨A, c, rfl, _, _, _⟩ := ha
  obtain ⟨B, d, rfl, _, _, _⟩ := hb
  clear hB
  by_cases h : (lim x).length ≤ 2 ∧ (lim y).length ≤ 2
  · obtain ⟨h1, h2⟩ := h
    have bx := lim_len_le.1 h1
    have by_ := lim_len_le.1 h2
    rw [show pw 2 = 1000000000000000000 from by decide] at bx by_
    have Hx := Lib.hid bx
    have Hy := Lib.hid by_
    clear bx by_
    obtain ⟨G, hG⟩ : ∃ G, G = Nat.gcd x y := ⟨_, rfl⟩
    have HG := Lib.hid hG
    clear hG
    go_enter Tryd.func123, Tryd.ntmps123
    go_wp2_with fail
    refine (word_n Ha.out h1).mono ?_
    rintro e w1 ⟨rfl, rfl⟩
    go_wp2_with fail
    refine (word_n Hb.out h2).mono ?_
    rintro e w1 ⟨rfl, rfl⟩
    go_wp2_with fail
    refine (binary_n x y w HB.out (Nat.lt_trans Hx.out (by omega)) (Nat.lt_trans Hy.out (by omega))).mono ?_
    rw [← HG.out]
    rintro e w1 ⟨rfl, rfl⟩
    go_wp2_with fail
    go_ret
    exact ⟨⟨_, rfl, by rw [← HG.out]; simp; omega⟩, Below.refl _ _⟩
  · rcases Nat.lt_or_ge 2 (lim x).length with h1 | h1
    · clear h
      go_enter Tryd.func123, Tryd.ntmps123
      go_wp2_with fail
      refine (gcd_n Ha.out Hb.out HB.out hx9 hy9).mono ?_
      rintro e w1 ⟨⟨v, rfl, hv⟩, hb⟩
      have Hv := Lib.hid hv
      have Hbw := Lib.hid hb
      obtain ⟨P, k, rfl, _, _, _⟩ := hv
      clear hb
      go_wp2_with fail
      refine (zfl Hv.out).mono ?_
      rintro e w2 ⟨rfl, rfl⟩
      go_wp2_with fail
      go_ret
      exact ⟨⟨_, rfl, by simp⟩, Hbw.out⟩
    · have h2 : 2 < (lim y).length := by omega
      clear h
      go_enter Tryd.func123, Tryd.ntmps123
      go_wp2_with fail
      refine (gcd_n Ha.out Hb.out HB.out hx9 hy9).mono ?_
      rintro e w1 ⟨⟨v, rfl, hv⟩, hb⟩
      have Hv := Lib.hid hv
      have Hbw := Lib.hid hb
      obtain ⟨P, k, rfl, _, _, _⟩ := hv
      clear hb
      go_wp2_with fail
      refine (zfl Hv.out).mono ?_
      rintro e w2 ⟨rfl, rfl⟩
      go_wp2_with fail
      go_ret
      exact ⟨⟨_, rfl, by simp⟩, Hbw.out⟩
set_option maxHeartbeats 400000 in
theorem join_n {w : World} {va vb : Value} {x y : Nat} (sa sb : Bool) (ha : IsN w 0 w.heap.size va x) (hb : IsN w 0 w.heap.size vb y) (hx : (lim x).length ≤ 2000000) (hy : (lim y).length ≤ 2000000) :
    Calls Tryd.prog 120 #[.bool sa, va, .bool sb, vb] w fun e w' => (∃ s v n, e = .returned (.tuple #[.bool s, v]) ∧ Hid (sg s n = sg sa x + sg sb y) ∧ IsN w' w.heap.size w'.heap.size v n ∧ (lim n).length ≤ 2000001) ∧ Below w.heap.size w w' := by
  have Ha := Lib.hid ha
  have Hb := Lib.hid hb
  obtain ⟨A, c, rfl, _, _, _⟩ := ha
  obtain ⟨B, d, rfl, _, _, _⟩ := hb
  by_cases hs : sa = sb
  · subst hs
    have h1 : (sa == sa) = true := by simp
    go_enter Tryd.func120, Tryd.ntmps120
    go_wp2_with fail
    refine (add_n Ha.out Hb.out (Nat.le_refl _) (Nat.le_refl _) (by omega) (by omega)).mono ?_
    rintro e w1 ⟨⟨v, rfl, hv⟩, hb⟩
    have Hv := Lib.hid hv
    have Hbw := Lib.hid hb
    clear hv hb
    go_wp2_with fail
    go_ret2
    exact ⟨⟨_, _, _, rfl, sg_add _ _ _, Hv.out, by have := sz_add hx hy; omega⟩, Hbw.out⟩
  · have h1 : (sa == sb) = false := by simp [hs]
    have Hs : Hid (sb = !sa) := by unfold Hid; cases sa <;> cases sb <;> simp at hs ⊢
    clear hs
    rcases Nat.lt_or_ge x y with hlt | hge
    · have Hlt := Lib.hid hlt
      clear hlt
      go_enter Tryd.func120, Tryd.ntmps120
      go_wp2_with fail
      refine (cmp_n Ha.out Hb.out).mono ?_
      rw [sgn_lt Hlt.out]
      rintro e w1 ⟨rfl, hd⟩
      have hb1 := hd.below w.heap.size
      have Ha1 := Lib.hid (IsN.next Ha.out hb1)
      have Hb1 := Lib.hid (IsN.next Hb.out hb1)
      have Hd := Lib.hid hb1
      clear hd hb1
      go_wp2_with fail
      refine (sub_n Hb1.out Ha1.out (Nat.le_refl _) (Nat.le_refl _) (Nat.le_of_lt Hlt.out) (by omega)).mono ?_
      rintro e w2 ⟨⟨v, rfl, hv⟩, hb⟩
      have Hv := Lib.hid (hv.wide Hd.out.size (Nat.le_refl _))
      have Hbw := Lib.hid (zaa Hd.out hb)
      clear hv hb
      go_wp2_with fail
      go_ret2
      exact ⟨⟨_, _, _, rfl, by unfold Hid; rw [sg_sub' (Nat.le_of_lt Hlt.out), Hs.out]; simp, Hv.out, Nat.le_trans (zas (Nat.sub_le _ _)) (by omega)⟩, Hbw.out⟩
    · have Hge := Lib.hid hge
      obtain ⟨r, hr, hr0⟩ : ∃ r, r = sgn x y ∧ 0 ≤ r := by
        refine ⟨_, rfl, ?_⟩
        rcases Nat.lt_or_ge y x with h | h
        · rw [sgn_gt h]; omega
        · rw [sgn_eq (Nat.le_antisymm h hge)]; omega
      have Hr := Lib.hid hr
      clear hge hr
      go_enter Tryd.func120, Tryd.ntmps120
      go_wp2_with fail
      refine (cmp_n Ha.out Hb.out).mono ?_
      rw [← Hr.out]
      rintro e w1 ⟨rfl, hd⟩
      have hb1 := hd.below w.heap.size
      have Ha1 := Lib.hid (IsN.next Ha.out hb1)
      have Hb1 := Lib.hid (IsN.next Hb.out hb1)
      have Hd := Lib.hid hb1
      clear hd hb1
      go_wp2_with fail
      refine (sub_n Ha1.out Hb1.out (Nat.le_refl _) (Nat.le_refl _) Hge.out (by omega)).mono ?_
      rintro e w2 ⟨⟨v, rfl, hv⟩, hb⟩
      have Hv := Lib.hid (hv.wide Hd.out.size (Nat.le_refl _))
      have Hbw := Lib.hid (zaa Hd.out hb)
      clear hv hb
      go_wp2_with fail
      go_ret2
      exact ⟨⟨_, _, _, rfl, by unfold Hid; rw [sg_sub Hge.out, Hs.out], Hv.out, Nat.le_trans (zas (Nat.sub_le _ _)) (by omega)⟩, Hbw.out⟩
end Go.Proofs.YtjkgdggkgljdoaaDoor
