/-
  The contracts of the reference's Minus and Times.
-/
import Derived.Test.YtbeocfiimminiaaRefP
namespace Go.Proofs.Ytbeocfiimminiaa
open Go.RowKit
set_option linter.unusedVariables false

set_option maxRecDepth 100000 in
set_option maxHeartbeats 1000000 in
theorem rminus_n {w : World} {va vb : Value} {x y : Nat} {lo hi lo' hi' : Nat} (ha : IsN w lo hi va x) (hb : IsN w lo' hi' vb y) (hi1 : hi ≤ w.heap.size) (hi2 : hi' ≤ w.heap.size) (hle : y ≤ x) (hx : (lim x).length ≤ 4294967296) :
    Calls Try.prog 45 #[va, vb] w fun e w' => (∃ v, e = .returned v ∧ IsN w' w.heap.size w'.heap.size v (x - y)) ∧ Below w.heap.size w w' := by
  have hab := lim_len_mono hle
  obtain ⟨A, c, rfl, _, _, hA⟩ := ha
  obtain ⟨B, d, rfl, _, _, hB⟩ := hb
  generalize hla : lim x = a at *
  generalize hlb : lim y = b at *
  have Hal : Hid (Lo a ∧ val a = x) := by rw [Hid, ← hla]; exact ⟨lo_lim x, val_lim x⟩
  have Hbl : Hid (Lo b ∧ val b = y) := by rw [Hid, ← hlb]; exact ⟨lo_lim y, val_lim y⟩
  have Hle := Lib.hid hle
  clear hla hlb hle
  generalize hBs : w.heap.size = bs at *
  have HB := Lib.hid hBs; clear hBs
  go_enter Try.func45, Try.ntmps45
  go_wp2
  go_loopw [5, 6, 7] (fun v bw i wr => ∃ (k : Nat) (L : List Nat) (q : Int), k ≤ a.length ∧ i = .int .i64 (k : Int) ∧ bw = .int .i64 q ∧ 0 ≤ q ∧ q ≤ 1 ∧ Own wr bs 30 v (cel .u32 L) ∧ Below bs w wr ∧
      Hid (L.length = k ∧ Lo L ∧ (val L : Int) = val (a.take k) - val (b.take k) + q * pw k)) (fun _ _ i _ => a.length - (intOf i).toNat)
  case atStart => exact ⟨0, [], 0, by omega, rfl, rfl, by omega, by omega, Own.nil _ _ _, Below.refl _ _, rfl, lo_nil, by simp [val]⟩
  case round =>
    obtain ⟨k, L, q, hk, rfl, rfl, hq0, hq1, hown, hbw, hrel⟩ := hrel
    have hBw : bs ≤ wr.heap.size := by have := hbw.size; have := HB.out; omega
    have hkc : k ≤ 4294967297 := by omega
    have hlen : Hid ((cel .u32 L).length ≤ 4294967297) := by rw [Hid, cel_length, hrel.out.1]; omega
    rcases Nat.lt_or_ge k a.length with hka | hka
    · obtain ⟨ba, oa, rfl, _, _, hca⟩ := (hA.below hbw hi1) (cel_ne (j := k) hka)
      obtain ⟨x1, hx1, hx10, hx11, hx1c⟩ := cell_lo (j := k) Hal.out.1 hca hka
      clear hca
      rcases Nat.lt_or_ge k b.length with hkb | hkb
      · obtain ⟨bb, ob, rfl, _, _, hcb⟩ := (hB.below hbw hi2) (cel_ne (j := k) hkb)
        obtain ⟨y1, hy1, hy10, hy11, hy1c⟩ := cell_lo (j := k) Hbl.out.1 hcb hkb
        clear hcb
        rcases Int.lt_or_le (x1 - q - y1) 0 with hneg | hpos
        · go_wp2_with (at_builtin; refine wp_app1 elN rfl _ _ rfl rfl hown rfl rfl (by have := hlen.out; omega) hBw ?_; intro v1 w1 hown1 hbw1 hz1)
          go_roundw
          case rel =>
            rw [cel_snoc .u32 L (x1 - q - y1 + 1000000000).toNat _ (by omega)] at hown1
            exact ⟨k + 1, _, 1, by omega, by go_num, rfl, by omega, by omega, hown1, hbw.trans hbw1, by rw [List.length_append]; simp [hrel.out.1], lo_snoc hrel.out.2.1 (by omega), minus_step hrel.out.1 hx1.out hy1.out (by omega) (by omega) hrel.out.2.2⟩
          case measure => simp [intOf]; omega
        · go_wp2_with (at_builtin; refine wp_app1 elN rfl _ _ rfl rfl hown rfl rfl (by have := hlen.out; omega) hBw ?_; intro v1 w1 hown1 hbw1 hz1)
          go_roundw
          case rel =>
            rw [cel_snoc .u32 L (x1 - q - y1).toNat _ (by omega)] at hown1
            exact ⟨k + 1, _, 0, by omega, by go_num, rfl, by omega, by omega, hown1, hbw.trans hbw1, by rw [List.length_append]; simp [hrel.out.1], lo_snoc hrel.out.2.1 (by omega), minus_step hrel.out.1 hx1.out hy1.out (by omega) (by omega) hrel.out.2.2⟩
          case measure => simp [intOf]; omega
      · rcases Int.lt_or_le (x1 - q) 0 with hneg | hpos
        · go_wp2_with (at_builtin; refine wp_app1 elN rfl _ _ rfl rfl hown rfl rfl (by have := hlen.out; omega) hBw ?_; intro v1 w1 hown1 hbw1 hz1)
          go_roundw
          case rel =>
            rw [cel_snoc .u32 L (x1 - q + 1000000000).toNat _ (by omega)] at hown1
            exact ⟨k + 1, _, 1, by omega, by go_num, rfl, by omega, by omega, hown1, hbw.trans hbw1, by rw [List.length_append]; simp [hrel.out.1], lo_snoc hrel.out.2.1 (by omega), minus_step (y := 0) hrel.out.1 hx1.out (by rw [getD_end hkb]; rfl) (by omega) (by omega) hrel.out.2.2⟩
          case measure => simp [intOf]; omega
        · go_wp2_with (at_builtin; refine wp_app1 elN rfl _ _ rfl rfl hown rfl rfl (by have := hlen.out; omega) hBw ?_; intro v1 w1 hown1 hbw1 hz1)
          go_roundw
          case rel =>
            rw [cel_snoc .u32 L (x1 - q).toNat _ (by omega)] at hown1
            exact ⟨k + 1, _, 0, by omega, by go_num, rfl, by omega, by omega, hown1, hbw.trans hbw1, by rw [List.length_append]; simp [hrel.out.1], lo_snoc hrel.out.2.1 (by omega), minus_step (y := 0) hrel.out.1 hx1.out (by rw [getD_end hkb]; rfl) (by omega) (by omega) hrel.out.2.2⟩
          case measure => simp [intOf]; omega
    · obtain rfl : k = a.length := by omega
      have hv : Hid (val L = x - y) := by
        have h := sub_end (L := L) (b := b) (bw := q) hrel.out.1 rfl hab hrel.out.2.1 (by omega) (by rw [Hal.out.2, Hbl.out.2]; exact Hle.out) (by rw [val_take_all (l := L) (Nat.le_of_eq hrel.out.1)]; exact hrel.out.2.2)
        rw [Hal.out.2, Hbl.out.2] at h
        exact h
      have hlo := Lib.hid hrel.out.2.1
      have hL := Lib.hid hown.isL
      obtain ⟨A', c', hv', _, _, _⟩ := hown.isL
      subst hv'
      clear hown hrel
      go_wp2_with fail
      refine (rtrim_l hL.out hlo.out).mono ?_
      rintro e w2 ⟨⟨v2, rfl, hv2⟩, rfl⟩
      go_wp2_with fail
      go_ret
      rw [hv.out] at hv2
      exact ⟨⟨_, rfl, hv2⟩, hbw⟩

set_option maxRecDepth 100000 in
set_option maxHeartbeats 1000000 in
theorem rtimes_n {w : World} {va vb : Value} {x y : Nat} {lo hi lo' hi' : Nat} (ha : IsN w lo hi va x) (hb : IsN w lo' hi' vb y) (hi1 : hi ≤ w.heap.size) (hi2 : hi' ≤ w.heap.size) (hx : (lim x).length ≤ 4294967296) (hy : (lim y).length ≤ 4294967296) :
    Calls Try.prog 48 #[va, vb] w fun e w' => (∃ v, e = .returned v ∧ IsN w' w.heap.size w'.heap.size v (x * y)) ∧ Below w.heap.size w w' := by
  obtain ⟨A, c, rfl, _, _, hA⟩ := ha
  obtain ⟨B, d, rfl, _, _, hB⟩ := hb
  generalize hla : lim x = a at *
  generalize hlb : lim y = b at *
  have Hal : Hid (Lo a ∧ val a = x) := by rw [Hid, ← hla]; exact ⟨lo_lim x, val_lim x⟩
  have Hbl : Hid (Lo b ∧ val b = y) := by rw [Hid, ← hlb]; exact ⟨lo_lim y, val_lim y⟩
  clear hla hlb
  go_enter Try.func48, Try.ntmps48
  go_wp2_with (at_make; refine wp_make elN rfl _ _ rfl (a.length + b.length) rfl rfl rfl rfl (by omega) ?_; intro G w1 hG hrow hb1 hz1)
  go_loopw [6] (fun i wr => ∃ k : Nat, ∃ L : List Nat, k ≤ a.length ∧ i = .int .i64 (k : Int) ∧ Row wr G 30 (cel .u32 L) ∧ Below G w wr ∧ Hid (wr.heap.size = G + 1) ∧
      Hid (L.length = a.length + b.length ∧ Lo L ∧ (∀ j, k + b.length ≤ j → L.getD j 0 = 0) ∧ val L = val (a.take k) * val b)) (fun i _ => a.length - (intOf i).toNat)
  case atStart => exact ⟨0, _, Nat.zero_le _, rfl, hrow, hb1, hz1, by simp, lo_replicate _, fun j _ => by rw [List.getD_eq_getElem?_getD, List.getElem?_replicate]; split <;> rfl, by rw [val_nil_take, Nat.zero_mul]; exact val_zeros (fun x hx => (List.mem_replicate.1 hx).2)⟩
  case round =>
    obtain ⟨k, L, hk, rfl, hr, hbw, hsz, hrel⟩ := hrel
    have hbw' : Below w.heap.size w wr := by have := hG.out; subst this; exact hbw
    rcases Nat.lt_or_ge k a.length with hlt | hge
    · obtain ⟨ba, oa, rfl, _, _, _⟩ := hA (cel_ne (j := k) hlt)
      have HR := hrel; clear hrel
      obtain ⟨wo, rfl⟩ : ∃ wo : World, wo = wr := ⟨_, rfl⟩
      go_wp2
      go_loopw [7, 8] (fun cr i wi => ∃ j : Nat, ∃ M : List Nat, ∃ cy : Int, j ≤ b.length ∧ i = .int .i64 (j : Int) ∧ cr = .int .u64 cy ∧ 0 ≤ cy ∧ cy ≤ 999999999 ∧ Row wi G 30 (cel .u32 M) ∧ Below G w wi ∧ Hid (wi.heap.size = G + 1) ∧
          Hid (M.length = a.length + b.length ∧ Lo M ∧ (∀ j, k + b.length ≤ j → M.getD j 0 = 0) ∧ (val M : Int) + cy * pw (k + j) = val L + ((a.getD k 0 : Nat) : Int) * pw k * val (b.take j))) (fun _ i _ => b.length - (intOf i).toNat)
      case atStart => exact ⟨0, L, 0, Nat.zero_le _, rfl, rfl, by omega, by omega, hr, hbw, hsz, HR.out.1, HR.out.2.1, HR.out.2.2.1, by simp [val]⟩
      case round =>
        clear hr hbw hbw' hsz
        obtain ⟨j, M, cy, hj, rfl, rfl, hcy0, hcy1, hr, hbw, hsz, hrel⟩ := hrel
        have hbw' : Below w.heap.size w wr := by have := hG.out; subst this; exact hbw
        have hkM : Hid (k + b.length < M.length) := by rw [hrel.out.1]; unfold Hid; omega
        rcases Nat.lt_or_ge j b.length with hjl | hjg
        · obtain ⟨x, hx, hx0, hx1, hxc⟩ := cell_lo (j := k) Hal.out.1 (hA.below hbw' hi1).at_ hlt
          obtain ⟨bb, ob, rfl, _, _, hcb⟩ := (hB.below hbw' hi2) (cel_ne (j := j) hjl)
          obtain ⟨y, hy, hy0, hy1, hyc⟩ := cell_lo (j := j) Hbl.out.1 hcb hjl
          clear hcb
          obtain ⟨z, hz, hz0, hz1, hzc⟩ := hr.lo hrel.out.2.1 (i := k + j) (by have := hkM.out; omega)
          have hzf := hr.frozen (k + j)
          have hxy := mul_le_limb hx0 hx1 hy0 hy1
          have hxy0 := hxy.1
          have hxy1 := hxy.2
          clear hxy
          go_wp2
          go_quiet (fail)
          go_wp2
          go_roundw
          case rel =>
            refine ⟨j + 1, M.set (k + j) ((cy + z + x * y) % 1000000000).toNat, (cy + z + x * y) / 1000000000, by omega, by go_num, rfl, by omega, by omega, (hr.drewN _).setNum (k + j) _ _ (by omega), (below_drewN hbw _).setCell (Nat.le_refl _) _,
              by have := hsz.out; simpa [Hid, World.setCell] using this, by rw [List.length_set]; exact hrel.out.1, lo_set hrel.out.2.1 (by omega), fun i hi => by rw [getD_set_ne (by omega)]; exact hrel.out.2.2.1 i hi, ?_⟩
            rw [← hx.out]
            exact mul_step (by have := hkM.out; omega) hy.out hz.out (t := cy + z + x * y) (c := cy) (c' := (cy + z + x * y) / 1000000000) (r := (cy + z + x * y) % 1000000000) (by omega) (by omega) (by omega) (by rw [hx.out]; exact hrel.out.2.2.2)
          case measure => simp [intOf]; omega
        · obtain rfl : j = b.length := by omega
          obtain ⟨z, hz, hz0, hzc⟩ := hr.num (i := k + b.length) hkM.out
          have hzf := hr.frozen (k + b.length)
          go_wp2
          go_roundw
          case rel =>
            exact ⟨k + 1, M.set (k + b.length) cy.toNat, by omega, by go_num, hr.setNum (k + b.length) _ _ (by omega), hbw.setCell (Nat.le_refl _) _,
              by have := hsz.out; simpa [Hid, World.setCell] using this, by rw [List.length_set]; exact hrel.out.1, lo_set hrel.out.2.1 (by omega), fun i hi => by rw [getD_set_ne (by omega)]; exact hrel.out.2.2.1 i (by omega),
              mul_row rfl hkM.out rfl (hrel.out.2.2.1 _ (Nat.le_refl _)) hcy0 HR.out.2.2.2 hrel.out.2.2.2⟩
          case measure => simp [intOf]; omega
    · obtain rfl : k = a.length := by omega
      have H1 : Hid (Row wr G 30 (cel .u32 L) ∧ val L = x * y ∧ L.length = a.length + b.length ∧ Lo L) := ⟨hr, by have := hrel.out.2.2.2; rw [val_take_all (Nat.le_refl _), Hal.out.2, Hbl.out.2] at this; exact this, hrel.out.1, hrel.out.2.1⟩
      clear hr hrel
      go_wp2_with fail
      rw [← H1.out.2.2.1]
      refine (rtrim_list _ _ L wr G (G + 1) H1.out.2.2.2 (Nat.le_refl _) (by have := H1.out.2.2.1; unfold maxLen; omega) H1.out.1.sv).mono ?_
      rintro e w2 ⟨⟨v, rfl, hv⟩, rfl⟩
      go_wp2_with fail
      go_ret
      refine ⟨⟨_, rfl, ?_⟩, hbw'⟩
      rw [← H1.out.2.1]
      exact hv.wide (by have := hG.out; omega) (by have := hsz.out; omega)
end Go.Proofs.Ytbeocfiimminiaa
