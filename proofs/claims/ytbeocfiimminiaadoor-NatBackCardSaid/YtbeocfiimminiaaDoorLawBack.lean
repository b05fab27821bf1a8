/-
  The walk of the law NatBack.
-/
import Derived.Test.YtbeocfiimminiaaDoorParseB
import Derived.Test.YtbeocfiimminiaaDoorTextA
import Derived.Test.YtbeocfiimminiaaDoorKitA
import Derived.Test.YtbeocfiimminiaaDoorDigits
import Derived.Test.YtbeocfiimminiaaDoorPlainB
namespace Go.Proofs.YtbeocfiimminiaaDoor
open Go.RowKit
set_option linter.unusedVariables false

/-- The four ways in which two texts lie, and what the program asks of them. -/
theorem txt_order (x y : Nat) : ((bs (txt x)).size < (bs (txt y)).size ∧ sgn x y = -1) ∨ ((bs (txt y)).size < (bs (txt x)).size ∧ sgn x y = 1) ∨
    ((bs (txt x)).size = (bs (txt y)).size ∧ ∃ a b : Bool, Op.bytesLess (bs (txt x)).toList (bs (txt y)).toList = a ∧ ((bs (txt x)).toList == (bs (txt y)).toList) = b ∧ sgn x y = if a then -1 else if b then 0 else 1) := by
  obtain ⟨gx, px, cx, nx⟩ := txt_reads x
  obtain ⟨gy, py, cy, ny⟩ := txt_reads y
  have ux : nv (bs (txt x)) 0 (bs (txt x)).size < tn (bs (txt x)).size := nv_lt (fun i hi => gx i (by omega))
  have uy : nv (bs (txt y)) 0 (bs (txt y)).size < tn (bs (txt y)).size := nv_lt (fun i hi => gy i (by omega))
  have key : ∀ (s t : ByteArray), Good s s.size → Good t t.size → 0 < s.size → (t.size = 1 ∨ byt t 0 ≠ 48) → s.size < t.size → nv s 0 s.size < nv t 0 t.size := by
    intro s t gs gt h0 hc hst
    have h1 : nv s 0 s.size < tn s.size := nv_lt (fun i hi => gs i (by omega))
    obtain ⟨m, hm⟩ : ∃ m, t.size = m + 1 := ⟨t.size - 1, by omega⟩
    have h2 : tn m ≤ nv t 0 t.size := by
      rw [hm] at gt ⊢
      exact nv_ge gt (by rcases hc with h | h; · omega
                         · exact h)
    have h3 := tn_mono (show s.size ≤ m by omega)
    omega
  rcases Nat.lt_trichotomy (bs (txt x)).size (bs (txt y)).size with h | h | h
  · have := key _ _ gx gy px cy h
    exact .inl ⟨h, sgn_lt (by omega)⟩
  · refine .inr (.inr ⟨h, _, _, rfl, rfl, ?_⟩)
    have hl := less_nv gx gy h (bs (txt x)).size 0 (by omega)
    rw [List.drop_zero, List.drop_zero, nx, h, ny] at hl
    rw [list_data, list_data, hl]
    rcases Nat.lt_trichotomy x y with g | g | g
    · rw [sgn_lt g, decide_eq_true g]; rfl
    · subst g
      rw [sgn_eq rfl]
      simp
    · rw [sgn_gt g, decide_eq_false (by omega), if_neg (by simp), if_neg]
      intro he
      have he2 := eq_of_beq he
      have : bs (txt x) = bs (txt y) := by
        have h5 : (bs (txt x)).data = (bs (txt y)).data := by rw [← Array.toArray_toList (xs := (bs (txt x)).data), he2, Array.toArray_toList]
        exact ByteArray.ext h5
      rw [this, ny] at nx
      omega
  · have := key _ _ gy gx py cx h
    exact .inr (.inl ⟨h, sgn_gt (by omega)⟩)

theorem val_cut_len (l : List Nat) (k : Nat) (h : l.length ≤ k) : (lim (val (cut9 l))).length ≤ k := by
  rw [lim_len_le]
  have h1 := val_lt (lo_cut9 l)
  rw [cut9_length] at h1
  exact Nat.lt_of_lt_of_le h1 (pw_mono h)
theorem txt_small {n k : Nat} (h : (lim n).length ≤ k) : (bs (txt n)).size ≤ 9 * k + 1 := by
  rw [bs_size, txt_len]
  unfold ndg
  split
  · omega
  · rw [ndig_le]
    have := lim_len_le.1 h
    rw [← tn_nine] at this
    exact Nat.lt_of_lt_of_le this (tn_mono (by omega))

/-- What Parse makes of the text of a number. -/
theorem nparse_txt {w : World} (n : Nat) (h : (lim n).length ≤ 1023) :
    Calls Tryd.prog 12 #[.string (bs (txt n))] w fun e w' => (∃ v, e = .returned (.tuple #[v, .agg #[.int .i64 0, .int .i64 0]]) ∧ IsN w' w.heap.size w'.heap.size v n) ∧ Below w.heap.size w w' := by
  obtain ⟨g, p, c, e⟩ := txt_reads n
  have := txt_small h
  have h1 := nparse_ok (w := w) (bs (txt n)) (by omega) g p c
  rw [e] at h1
  exact h1

set_option maxRecDepth 100000 in
set_option maxHeartbeats 2000000 in
theorem law_back {w : World} {va vb : Value} {k l : List Nat} (ha : IsL .u32 w 0 w.heap.size va k) (hb : IsL .u32 w 0 w.heap.size vb l) (hD : Dig w) :
    Calls Tryd.prog 4 #[va, vb] w fun e w' => e = .returned (.bool true) ∧ Below w.heap.size w w' := by
  have Ha := Lib.hid ha
  have Hb := Lib.hid hb
  have HD := Lib.hid hD
  clear hD
  obtain ⟨A, c, rfl, _, _, _⟩ := ha
  obtain ⟨B, d, rfl, _, _, _⟩ := hb
  have hcase : 40 < k.length ∨ (k.length ≤ 40 ∧ 40 < l.length) ∨ (k.length ≤ 40 ∧ l.length ≤ 40) := by omega
  rcases hcase with h1 | ⟨h1, h2⟩ | ⟨h1, h2⟩
  · go_enter Tryd.func4, Tryd.ntmps4
    go_wp2_with fail
    refine (awake_true w).mono ?_
    rintro e w1 ⟨rfl, hb⟩
    go_wp2_with fail
    go_ret
    exact ⟨rfl, hb⟩
  · go_enter Tryd.func4, Tryd.ntmps4
    go_wp2_with fail
    refine (awake_true w).mono ?_
    rintro e w1 ⟨rfl, hb⟩
    go_wp2_with fail
    go_ret
    exact ⟨rfl, hb⟩
  · have Hx := Lib.hid (val_cut_len k 40 h1)
    have Hy := Lib.hid (val_cut_len l 40 h2)
    go_enter Tryd.func4, Tryd.ntmps4
    go_wp2_with fail
    refine (limbs_l Ha.out (Nat.le_refl _) (by omega)).mono ?_
    generalize hx : val (cut9 k) = x at *
    clear hx
    rintro e w1 ⟨⟨va, rfl, hva⟩, hb1⟩
    have Va := Lib.hid hva
    clear hva
    go_wp2_with fail
    refine (limbs_l (Hb.out.next hb1) (Nat.le_refl _) (by omega)).mono ?_
    generalize hy : val (cut9 l) = y at *
    clear hy h1 h2
    rintro e w2 ⟨⟨vb, rfl, hvb⟩, hb2⟩
    have Vb := Lib.hid (hvb.wide (Nat.zero_le _) (Nat.le_refl _))
    have Va2 := Lib.hid (Va.out.next hb2)
    have hbw2 := Lib.hid (below_step hb1 hb2)
    clear hvb Va hb1 hb2
    go_wp2_with fail
    refine (ntext_ok Va2.out (Nat.le_refl _) (by have := Hx.out; omega) (HD.out.below hbw2.out)).mono ?_
    have Ho := Lib.hid (txt_order x y)
    have Hsz : Hid ((bs (txt x)).size = ndg x) := by rw [Hid, bs_size, txt_len]
    have Hp := fun w => Lib.hid (nparse_txt (w := w) x (by have := Hx.out; omega))
    have Hs1 : (bs (txt x)).size ≤ 400 := by have := txt_small Hx.out; omega
    have Hs2 : (bs (txt y)).size ≤ 400 := by have := txt_small Hy.out; omega
    generalize hs : bs (txt x) = s at *
    have HS := Lib.hid hs
    clear hs
    rintro e w3 ⟨rfl, hb3⟩
    have hbw3 := Lib.hid (below_step hbw2.out hb3)
    have Va3 := Lib.hid (Va2.out.next hb3)
    have Vb3 := Lib.hid (Vb.out.next hb3)
    clear Va2 Vb hbw2 hb3
    go_wp2_with fail
    refine (ntext_ok Vb3.out (Nat.le_refl _) (by have := Hy.out; omega) (HD.out.below hbw3.out)).mono ?_
    generalize ht : bs (txt y) = t at *
    have HT := Lib.hid ht
    clear ht
    rintro e w4 ⟨rfl, hb4⟩
    have hbw4 := Lib.hid (below_step hbw3.out hb4)
    have Va4 := Lib.hid (Va3.out.next hb4)
    have Vb4 := Lib.hid (Vb3.out.next hb4)
    clear Va3 Vb3 hbw3 hb4
    go_wp2_with fail
    refine (Hp w4).out.mono ?_
    clear Hp
    rintro e w5 ⟨⟨vp, rfl, hvp⟩, hb5⟩
    have Vp5 := Lib.hid (hvp.wide (Nat.zero_le _) (Nat.le_refl _))
    have hbw5 := Lib.hid (below_step hbw4.out hb5)
    have Va5 := Lib.hid (Va4.out.next hb5)
    have Vb5 := Lib.hid (Vb4.out.next hb5)
    clear Va4 Vb4 hbw4 hb5 hvp
    go_wp2_with fail
    have hF := two_new w5 (.int .i64 0) (.int .i64 0) 30
    have hf0 := hF.1
    have hbw6 := Lib.hid (below_stepA hbw5.out (.cells #[.int .i64 0, .int .i64 0] 30))
    have Va6 := Lib.hid (Va5.out.more (.cells #[.int .i64 0, .int .i64 0] 30))
    have Vb6 := Lib.hid (Vb5.out.more (.cells #[.int .i64 0, .int .i64 0] 30))
    have Vp6 := Lib.hid (Vp5.out.more (.cells #[.int .i64 0, .int .i64 0] 30))
    clear hF hbw5 Va5 Vb5 Vp5
    refine (ndigits_ok Va6.out (by have := Hx.out; omega)).mono ?_
    rw [← Hsz.out]
    clear Hsz
    rintro e w7 ⟨rfl, rfl⟩
    go_wp2_with fail
    refine (alike_n Vp6.out Va6.out).mono ?_
    rw [decide_eq_true rfl]
    rintro e w8 ⟨rfl, q, rfl⟩
    have fin : ∀ w' : World, Below w'.heap.size w' w' := fun w' => Below.refl _ _
    have Va7 := Lib.hid (Va6.out.drewN q)
    have Vb7 := Lib.hid (Vb6.out.drewN q)
    have hbw7 := Lib.hid (below_drewN hbw6.out q)
    clear Va6 Vb6 Vp6 hbw6 fin
    have Hc := fun w v0 v1 hi (h0 : IsN w 0 hi v0 x) (h1 : IsN w 0 hi v1 y) hh => Lib.hid (ncmp_ok (w := w) h0 h1 hh hh (by have := Hx.out; omega) (by have := Hy.out; omega))
    clear Hx Hy
    rcases Ho.out with ⟨o1, o2⟩ | ⟨o1, o2⟩ | ⟨o1, a, b, oa, ob, o2⟩
    · have O2 := Lib.hid o2
      clear o2 Ho
      go_wp2_with fail
      refine (Hc _ _ _ _ Va7.out Vb7.out (Nat.le_refl _)).out.mono ?_
      rw [O2.out]
      rintro e w9 ⟨rfl, hb9⟩
      have hbw9 := Lib.hid (below_step hbw7.out hb9)
      clear hb9 Hc
      go_wp2_with fail
      refine (awake_true _).mono ?_
      rintro e w10 ⟨rfl, hb10⟩
      go_wp2_with fail
      go_ret
      exact ⟨rfl, below_step hbw9.out hb10⟩
    · have O2 := Lib.hid o2
      clear o2 Ho
      have o3 : ((s.size : Int) == (t.size : Int)) = false := beq_eq_false_iff_ne.2 (by omega)
      go_wp2_with fail
      refine (Hc _ _ _ _ Va7.out Vb7.out (Nat.le_refl _)).out.mono ?_
      rw [O2.out]
      rintro e w9 ⟨rfl, hb9⟩
      have hbw9 := Lib.hid (below_step hbw7.out hb9)
      clear hb9 Hc
      go_wp2_with fail
      refine (awake_true _).mono ?_
      rintro e w10 ⟨rfl, hb10⟩
      go_wp2_with fail
      go_ret
      exact ⟨rfl, below_step hbw9.out hb10⟩
    · have O2 := Lib.hid o2
      clear o2 Ho
      have o3 : ((s.size : Int) == (t.size : Int)) = true := beq_iff_eq.2 (by omega)
      have o4 : (s.size : Int) ≤ t.size := by omega
      have o5 : (t.size : Int) ≤ s.size := by omega
      clear o1
      cases a
      · cases b
        all_goals
          go_wp2_with fail
          refine (Hc _ _ _ _ Va7.out Vb7.out (Nat.le_refl _)).out.mono ?_
          rw [O2.out]
          rintro e w9 ⟨rfl, hb9⟩
          have hbw9 := Lib.hid (below_step hbw7.out hb9)
          clear hb9 Hc
          go_wp2_with fail
          refine (awake_true _).mono ?_
          rintro e w10 ⟨rfl, hb10⟩
          go_wp2_with fail
          go_ret
          exact ⟨rfl, below_step hbw9.out hb10⟩
      · go_wp2_with fail
        refine (Hc _ _ _ _ Va7.out Vb7.out (Nat.le_refl _)).out.mono ?_
        rw [O2.out]
        rintro e w9 ⟨rfl, hb9⟩
        have hbw9 := Lib.hid (below_step hbw7.out hb9)
        clear hb9 Hc
        go_wp2_with fail
        refine (awake_true _).mono ?_
        rintro e w10 ⟨rfl, hb10⟩
        go_wp2_with fail
        go_ret
        exact ⟨rfl, below_step hbw9.out hb10⟩
end Go.Proofs.YtbeocfiimminiaaDoor
