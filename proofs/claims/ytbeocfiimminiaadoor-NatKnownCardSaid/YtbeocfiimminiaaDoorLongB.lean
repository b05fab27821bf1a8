/-
  The contracts of package long's Sub, Mul, short, times.
-/
import Derived.Test.YtbeocfiimminiaaDoorLongA
namespace Go.Proofs.YtbeocfiimminiaaDoor
open Go.RowKit
set_option linter.unusedVariables false

theorem lo_replicate (n : Nat) : Lo (List.replicate n 0) := by
  intro x hx
  rw [List.mem_replicate] at hx
  omega

set_option maxHeartbeats 400000 in
theorem sub_list (A B : Option Addr) (c d : Nat) (a b : List Nat) (w : World) (lo hi lo' hi' : Nat) (hi1 : hi ≤ w.heap.size) (hi2 : hi' ≤ w.heap.size) (ha : Lo a) (hb : Lo b) (hal : a.length ≤ 4294967296) (hba : b.length ≤ a.length) (hle : val b ≤ val a)
    (hA : SV w lo hi A (cel .u32 a)) (hB : SV w lo' hi' B (cel .u32 b)) :
    Calls Tryd.prog 48 #[.slice A a.length c, .slice B b.length d] w fun e w' => (∃ v, e = .returned v ∧ IsN w' w.heap.size w'.heap.size v (val a - val b)) ∧ Below w.heap.size w w' := by
  have Ha := Lib.hid ha; clear ha
  have Hb := Lib.hid hb; clear hb
  have Hle := Lib.hid hle; clear hle
  go_enter Tryd.func48, Tryd.ntmps48
  go_wp2_with (at_make; refine wp_make elN rfl _ _ rfl a.length rfl rfl rfl rfl (by omega) ?_; intro G w1 hG hrow hb1 hz1)
  go_loopw [6, 15] (fun bw i wr => ∃ k : Nat, ∃ L : List Nat, ∃ br : Int, k ≤ a.length ∧ i = .int .i64 (k : Int) ∧ bw = .int .i64 br ∧ 0 ≤ br ∧ br ≤ 1 ∧ Row wr G 34 (cel .u32 L) ∧ Below G w wr ∧ Hid (wr.heap.size = G + 1) ∧
      Hid (L.length = a.length ∧ Lo L ∧ (val (L.take k) : Int) = val (a.take k) - val (b.take k) + br * pw k)) (fun _ i _ => a.length - (intOf i).toNat)
  case atStart => exact ⟨0, _, 0, Nat.zero_le _, rfl, rfl, by omega, by omega, hrow, hb1, hz1, by simp, lo_replicate _, by simp [val]⟩
  case round =>
    obtain ⟨k, L, br, hk, rfl, rfl, hbr0, hbr1, hr, hbw, hsz, hrel⟩ := hrel
    have hbw' : Below w.heap.size w wr := by have := hG.out; subst this; exact hbw
    rcases Nat.lt_or_ge k a.length with hlt | hge
    · obtain ⟨ba, oa, rfl, _, _, hca⟩ := (hA.below hbw' hi1) (cel_ne (j := k) hlt)
      obtain ⟨x, hx, hx0, hx1, hxc⟩ := cell_lo (j := k) Ha.out hca hlt
      clear hca
      obtain ⟨z, hz, hz0, hzc⟩ := hr.num (i := k) (by rw [hrel.out.1]; exact hlt)
      have hzf := hr.frozen k
      have hkL : Hid (k < L.length) := by rw [hrel.out.1]; exact hlt
      rcases Nat.lt_or_ge k b.length with hlb | hgb
      · obtain ⟨bb, ob, rfl, _, _, hcb⟩ := (hB.below hbw' hi2) (cel_ne (j := k) hlb)
        obtain ⟨y, hy, hy0, hy1, hyc⟩ := cell_lo (j := k) Hb.out hcb hlb
        clear hcb
        rcases Int.lt_or_le (x - br - y) 0 with hneg | hpos
        · go_wp2
          go_roundw
          case rel =>
            exact ⟨k + 1, L.set k (x - br - y + 1000000000).toNat, 1, by omega, by go_num, rfl, by omega, by omega, hr.setNum k _ _ (by omega), hbw.setCell (Nat.le_refl _) _, by have := hsz.out; simpa [Hid, World.setCell] using this,
              by rw [List.length_set]; exact hrel.out.1, lo_set hrel.out.2.1 (by omega), sub_rel hkL.out hx.out hy.out (by omega) (by omega) hrel.out.2.2⟩
          case measure => simp [intOf]; omega
        · go_wp2
          go_roundw
          case rel =>
            exact ⟨k + 1, L.set k (x - br - y).toNat, 0, by omega, by go_num, rfl, by omega, by omega, hr.setNum k _ _ (by omega), hbw.setCell (Nat.le_refl _) _, by have := hsz.out; simpa [Hid, World.setCell] using this,
              by rw [List.length_set]; exact hrel.out.1, lo_set hrel.out.2.1 (by omega), sub_rel hkL.out hx.out hy.out (by omega) (by omega) hrel.out.2.2⟩
          case measure => simp [intOf]; omega
      · rcases Int.lt_or_le (x - br) 0 with hneg | hpos
        · go_wp2
          go_roundw
          case rel =>
            exact ⟨k + 1, L.set k (x - br + 1000000000).toNat, 1, by omega, by go_num, rfl, by omega, by omega, hr.setNum k _ _ (by omega), hbw.setCell (Nat.le_refl _) _, by have := hsz.out; simpa [Hid, World.setCell] using this,
              by rw [List.length_set]; exact hrel.out.1, lo_set hrel.out.2.1 (by omega), sub_rel (y := 0) hkL.out hx.out (by rw [getD_end hgb]; rfl) (by omega) (by omega) hrel.out.2.2⟩
          case measure => simp [intOf]; omega
        · go_wp2
          go_roundw
          case rel =>
            exact ⟨k + 1, L.set k (x - br).toNat, 0, by omega, by go_num, rfl, by omega, by omega, hr.setNum k _ _ (by omega), hbw.setCell (Nat.le_refl _) _, by have := hsz.out; simpa [Hid, World.setCell] using this,
              by rw [List.length_set]; exact hrel.out.1, lo_set hrel.out.2.1 (by omega), sub_rel (y := 0) hkL.out hx.out (by rw [getD_end hgb]; rfl) (by omega) (by omega) hrel.out.2.2⟩
          case measure => simp [intOf]; omega
    · obtain rfl : k = a.length := by omega
      have hLl := hrel.out.1
      have hv := sub_end hLl rfl hba hrel.out.2.1 (by omega) Hle.out hrel.out.2.2
      have hlo := hrel.out.2.1
      have Hrel := hrel
      clear hrel
      have H1 : Hid (Row wr G 34 (cel .u32 L) ∧ val L = val a - val b ∧ L.length = a.length) := ⟨hr, hv, hLl⟩
      have H2 := Lib.hid hlo
      clear hv hlo hr hLl
      go_wp2_with fail
      rw [← H1.out.2.2]
      refine (trim_list _ _ L wr G (G + 1) H2.out (Nat.le_refl _) (by have := H1.out.2.2; unfold maxLen; omega) H1.out.1.sv).mono ?_
      rintro e w2 ⟨⟨v, rfl, hv⟩, rfl⟩
      go_wp2_with fail
      go_ret
      refine ⟨⟨_, rfl, ?_⟩, hbw'⟩
      rw [← H1.out.2.1]
      exact hv.wide (by have := hG.out; omega) (by have := hsz.out; omega)

theorem sub_n {w : World} {va vb : Value} {x y lo hi lo' hi' : Nat} (ha : IsN w lo hi va x) (hb : IsN w lo' hi' vb y) (hi1 : hi ≤ w.heap.size) (hi2 : hi' ≤ w.heap.size) (hle : y ≤ x) (hx : (lim x).length ≤ 4294967296) :
    Calls Tryd.prog 48 #[va, vb] w fun e w' => (∃ v, e = .returned v ∧ IsN w' w.heap.size w'.heap.size v (x - y)) ∧ Below w.heap.size w w' := by
  obtain ⟨A, c, rfl, _, _, hA⟩ := ha
  obtain ⟨B, d, rfl, _, _, hB⟩ := hb
  have h := sub_list A B c d (lim x) (lim y) w _ _ _ _ hi1 hi2 (lo_lim x) (lo_lim y) hx (lim_len_mono hle) (by rw [val_lim, val_lim]; exact hle) hA hB
  rw [val_lim, val_lim] at h
  exact h

set_option maxHeartbeats 400000 in
theorem mul_list (A B : Option Addr) (c d : Nat) (a b : List Nat) (w : World) (lo hi lo' hi' : Nat) (hi1 : hi ≤ w.heap.size) (hi2 : hi' ≤ w.heap.size) (ha : Lo a) (hb : Lo b) (hal : a.length ≤ 4294967296) (hba : b.length ≤ 4294967296)
    (hA : SV w lo hi A (cel .u32 a)) (hB : SV w lo' hi' B (cel .u32 b)) :
    Calls Tryd.prog 44 #[.slice A a.length c, .slice B b.length d] w fun e w' => (∃ v, e = .returned v ∧ IsN w' w.heap.size w'.heap.size v (val a * val b)) ∧ Below w.heap.size w w' := by
  have Ha := Lib.hid ha; clear ha
  have Hb := Lib.hid hb; clear hb
  rcases Nat.eq_zero_or_pos a.length with ha0 | ha0
  · have e : a = [] := List.eq_nil_of_length_eq_zero ha0
    subst e
    go_enter Tryd.func44, Tryd.ntmps44
    go_wp2
    go_ret
    exact ⟨⟨_, rfl, by rw [val, Nat.zero_mul, IsN, lim_zero]; exact IsL.nil⟩, Below.refl _ _⟩
  have han : ((a.length : Int) == 0) = false := beq_eq_false_iff_ne.2 (by omega)
  rcases Nat.eq_zero_or_pos b.length with hb0 | hb0
  · have e : b = [] := List.eq_nil_of_length_eq_zero hb0
    subst e
    go_enter Tryd.func44, Tryd.ntmps44
    go_wp2
    go_ret
    exact ⟨⟨_, rfl, by rw [show val ([] : List Nat) = 0 from rfl, Nat.mul_zero, IsN, lim_zero]; exact IsL.nil⟩, Below.refl _ _⟩
  have hbn : ((b.length : Int) == 0) = false := beq_eq_false_iff_ne.2 (by omega)
  go_enter Tryd.func44, Tryd.ntmps44
  go_wp2_with (at_make; refine wp_make elN rfl _ _ rfl (a.length + b.length) rfl rfl rfl rfl (by omega) ?_; intro G w1 hG hrow hb1 hz1)
  go_loopw [29] (fun i wr => ∃ k : Nat, ∃ L : List Nat, k ≤ a.length ∧ i = .int .i64 (k : Int) ∧ Row wr G 34 (cel .u32 L) ∧ Below G w wr ∧ Hid (wr.heap.size = G + 1) ∧
      Hid (L.length = a.length + b.length ∧ Lo L ∧ (∀ j, k + b.length ≤ j → L.getD j 0 = 0) ∧ val L = val (a.take k) * val b)) (fun i _ => a.length - (intOf i).toNat)
  case atStart => exact ⟨0, _, Nat.zero_le _, rfl, hrow, hb1, hz1, by simp, lo_replicate _, fun j _ => by rw [List.getD_eq_getElem?_getD, List.getElem?_replicate]; split <;> rfl, by rw [val_nil_take, Nat.zero_mul]; exact val_zeros (fun x hx => (List.mem_replicate.1 hx).2)⟩
  case round =>
    obtain ⟨k, L, hk, rfl, hr, hbw, hsz, hrel⟩ := hrel
    have hbw' : Below w.heap.size w wr := by have := hG.out; subst this; exact hbw
    rcases Nat.lt_or_ge k a.length with hlt | hge
    · obtain ⟨ba, oa, rfl, _, _, hca⟩ := (hA.below hbw' hi1) (cel_ne (j := k) hlt)
      obtain ⟨x, hx, hx0, hx1, hxc⟩ := cell_lo (j := k) Ha.out hca hlt
      clear hca
      have HR := hrel; clear hrel
      obtain ⟨wo, rfl⟩ : ∃ wo : World, wo = wr := ⟨_, rfl⟩
      go_wp2
      go_loopw [9, 39] (fun cr i wi => ∃ j : Nat, ∃ M : List Nat, ∃ cy : Int, j ≤ b.length ∧ i = .int .i64 (j : Int) ∧ cr = .int .u64 cy ∧ 0 ≤ cy ∧ cy ≤ 999999999 ∧ Row wi G 34 (cel .u32 M) ∧ Below G w wi ∧ Hid (wi.heap.size = G + 1) ∧
          Hid (M.length = a.length + b.length ∧ Lo M ∧ (∀ j, k + b.length ≤ j → M.getD j 0 = 0) ∧ (val M : Int) + cy * pw (k + j) = val L + x * pw k * val (b.take j))) (fun _ i _ => b.length - (intOf i).toNat)
      case atStart => exact ⟨0, L, 0, Nat.zero_le _, rfl, rfl, by omega, by omega, hr, hbw, hsz, HR.out.1, HR.out.2.1, HR.out.2.2.1, by simp [val]⟩
      case round =>
        clear hr hbw hbw' hsz hxc
        obtain ⟨j, M, cy, hj, rfl, rfl, hcy0, hcy1, hr, hbw, hsz, hrel⟩ := hrel
        have hbw' : Below w.heap.size w wr := by have := hG.out; subst this; exact hbw
        have hkM : Hid (k + b.length < M.length) := by rw [hrel.out.1]; unfold Hid; omega
        rcases Nat.lt_or_ge j b.length with hjl | hjg
        · obtain ⟨bb, ob, rfl, _, _, hcb⟩ := (hB.below hbw' hi2) (cel_ne (j := j) hjl)
          obtain ⟨y, hy, hy0, hy1, hyc⟩ := cell_lo (j := j) Hb.out hcb hjl
          clear hcb
          obtain ⟨z, hz, hz0, hz1, hzc⟩ := hr.lo hrel.out.2.1 (i := k + j) (by have := hkM.out; omega)
          have hzf := hr.frozen (k + j)
          have hxy := mul_le_limb hx0 hx1 hy0 hy1
          have hxy0 := hxy.1
          have hxy1 := hxy.2
          clear hxy
          go_wp2
          go_roundw
          case rel =>
            exact ⟨j + 1, M.set (k + j) (x * y + z + cy - (x * y + z + cy) / 1000000000 * 1000000000).toNat, (x * y + z + cy) / 1000000000, by omega, by go_num, rfl, by omega, by omega, hr.setNum (k + j) _ _ (by omega), hbw.setCell (Nat.le_refl _) _,
              by have := hsz.out; simpa [Hid, World.setCell] using this, by rw [List.length_set]; exact hrel.out.1, lo_set hrel.out.2.1 (by omega), fun i hi => by rw [getD_set_ne (by omega)]; exact hrel.out.2.2.1 i hi,
              mul_step (by have := hkM.out; omega) hy.out hz.out rfl rfl (by omega) hrel.out.2.2.2⟩
          case measure => simp [intOf]; omega
        · obtain rfl : j = b.length := by omega
          obtain ⟨z, hz, hz0, hzc⟩ := hr.num (i := k + b.length) hkM.out
          have hzf := hr.frozen (k + b.length)
          go_wp2
          go_roundw
          case rel =>
            exact ⟨k + 1, M.set (k + b.length) cy.toNat, by omega, by go_num, hr.setNum (k + b.length) _ _ (by omega), hbw.setCell (Nat.le_refl _) _,
              by have := hsz.out; simpa [Hid, World.setCell] using this, by rw [List.length_set]; exact hrel.out.1, lo_set hrel.out.2.1 (by omega), fun i hi => by rw [getD_set_ne (by omega)]; exact hrel.out.2.2.1 i (by omega),
              mul_row rfl hkM.out hx.out (hrel.out.2.2.1 _ (Nat.le_refl _)) hcy0 HR.out.2.2.2 hrel.out.2.2.2⟩
          case measure => simp [intOf]; omega
    · obtain rfl : k = a.length := by omega
      have H1 : Hid (Row wr G 34 (cel .u32 L) ∧ val L = val a * val b ∧ L.length = a.length + b.length ∧ Lo L) := ⟨hr, by have := hrel.out.2.2.2; rw [val_take_all (Nat.le_refl _)] at this; exact this, hrel.out.1, hrel.out.2.1⟩
      clear hr hrel
      go_wp2_with fail
      rw [← H1.out.2.2.1]
      refine (trim_list _ _ L wr G (G + 1) H1.out.2.2.2 (Nat.le_refl _) (by have := H1.out.2.2.1; unfold maxLen; omega) H1.out.1.sv).mono ?_
      rintro e w2 ⟨⟨v, rfl, hv⟩, rfl⟩
      go_wp2_with fail
      go_ret
      refine ⟨⟨_, rfl, ?_⟩, hbw'⟩
      rw [← H1.out.2.1]
      exact hv.wide (by have := hG.out; omega) (by have := hsz.out; omega)

theorem mul_n {w : World} {va vb : Value} {x y lo hi lo' hi' : Nat} (ha : IsN w lo hi va x) (hb : IsN w lo' hi' vb y) (hi1 : hi ≤ w.heap.size) (hi2 : hi' ≤ w.heap.size) (hx : (lim x).length ≤ 4294967296) (hy : (lim y).length ≤ 4294967296) :
    Calls Tryd.prog 44 #[va, vb] w fun e w' => (∃ v, e = .returned v ∧ IsN w' w.heap.size w'.heap.size v (x * y)) ∧ Below w.heap.size w w' := by
  obtain ⟨A, c, rfl, _, _, hA⟩ := ha
  obtain ⟨B, d, rfl, _, _, hB⟩ := hb
  have h := mul_list A B c d (lim x) (lim y) w _ _ _ _ hi1 hi2 (lo_lim x) (lo_lim y) hx hy hA hB
  rw [val_lim, val_lim] at h
  exact h
end Go.Proofs.YtbeocfiimminiaaDoor
