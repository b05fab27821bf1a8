/-
  The contract of the reference's Times.
-/
import Derived.Test.YtbeocfiimminiaaDoorFit
import Derived.Test.YtbeocfiimminiaaDoorRefA
import Derived.Test.YtbeocfiimminiaaDoorPlainS
namespace Go.Proofs.YtbeocfiimminiaaDoor
open Go.RowKit
set_option linter.unusedVariables false

set_option maxRecDepth 100000 in
set_option maxHeartbeats 1000000 in
theorem rtimes_n {w : World} {va vb : Value} {x y : Nat} {lo hi lo' hi' : Nat} (ha : IsN w lo hi va x) (hb : IsN w lo' hi' vb y) (hi1 : hi ≤ w.heap.size) (hi2 : hi' ≤ w.heap.size) (hx : (lim x).length ≤ 4294967296) (hy : (lim y).length ≤ 4294967296) :
    Calls Tryd.prog 45 #[va, vb] w fun e w' => (∃ v, e = .returned v ∧ IsN w' w.heap.size w'.heap.size v (x * y)) ∧ Below w.heap.size w w' := by
  obtain ⟨A, c, rfl, _, _, hA⟩ := ha
  obtain ⟨B, d, rfl, _, _, hB⟩ := hb
  generalize hla : lim x = a at *
  generalize hlb : lim y = b at *
  have Hal : Hid (Lo a ∧ val a = x) := by rw [Hid, ← hla]; exact ⟨lo_lim x, val_lim x⟩
  have Hbl : Hid (Lo b ∧ val b = y) := by rw [Hid, ← hlb]; exact ⟨lo_lim y, val_lim y⟩
  clear hla hlb
  go_enter Tryd.func45, Tryd.ntmps45
  go_wp2_with (at_make; refine wp_make elN rfl _ _ rfl (a.length + b.length) rfl rfl rfl rfl (by omega) ?_; intro G w1 hG hrow hb1 hz1)
  go_loopw [6] (fun i wr => ∃ k : Nat, ∃ L : List Nat, k ≤ a.length ∧ i = .int .i64 (k : Int) ∧ Row wr G 34 (cel .u32 L) ∧ Below G w wr ∧ Hid (wr.heap.size = G + 1) ∧
      Hid (L.length = a.length + b.length ∧ Lo L ∧ (∀ j, k + b.length ≤ j → L.getD j 0 = 0) ∧ val L = val (a.take k) * val b)) (fun i _ => a.length - (intOf i).toNat)
  case atStart => exact ⟨0, _, Nat.zero_le _, rfl, hrow, hb1, hz1, by simp, lo_replicate _, fun j _ => by rw [List.getD_eq_getElem?_getD, List.getElem?_replicate]; split <;> rfl, by rw [val_nil_take, Nat.zero_mul]; exact val_zeros (fun x hx => (List.mem_replicate.1 hx).2)⟩
  case round =>
    obtain ⟨k, L, hk, rfl, hr, hbw, hsz, hrel⟩ := hrel
    have hbw' : Below w.heap.size w wr := by have := hG.out; subst this; exact hbw
    rcases Nat.lt_or_ge k a.length with hlt | hge
    · obtain ⟨ba, oa, rfl, _, _, _⟩ := hA (cel_ne (j := k) hlt)
      have HR := hrel; clear hrel
      obtain ⟨wo, rfl⟩ : ∃ wo : World, wo = wr := ⟨_, rfl⟩
      go_wp2
      go_loopw [7, 8] (fun cr i wi => ∃ j : Nat, ∃ M : List Nat, ∃ cy : Int, j ≤ b.length ∧ i = .int .i64 (j : Int) ∧ cr = .int .u64 cy ∧ 0 ≤ cy ∧ cy ≤ 999999999 ∧ Row wi G 34 (cel .u32 M) ∧ Below G w wi ∧ Hid (wi.heap.size = G + 1) ∧
          Hid (M.length = a.length + b.length ∧ Lo M ∧ (∀ j, k + b.length ≤ j → M.getD j 0 = 0) ∧ (val M : Int) + cy * pw (k + j) = val L + ((a.getD k 0 : Nat) : Int) * pw k * val (b.take j))) (fun _ i _ => b.length - (intOf i).toNat)
      case atStart => exact ⟨0, L, 0, Nat.zero_le _, rfl, rfl, by omega, by omega, hr, hbw, hsz, HR.out.1, HR.out.2.1, HR.out.2.2.1, by simp [val]⟩
      case round =>
        clear hr hbw hbw' hsz
        obtain ⟨j, M, cy, hj, rfl, rfl, hcy0, hcy1, hr, hbw, hsz, hrel⟩ := hrel
        have hbw' : Below w.heap.size w wr := by have := hG.out; subst this; exact hbw
        have hkM : Hid (k + b.length < M.length) := by rw [hrel.out.1]; unfold Hid; omega
        rcases Nat.lt_or_ge j b.length with hjl | hjg
        · obtain ⟨x, hx, hx0, hx1, hxc⟩ := cell_lo (j := k) Hal.out.1 (hA.below hbw' hi1).at_ hlt
          obtain ⟨bb, ob, rfl, _, _, hcb⟩ := (hB.below hbw' hi2) (cel_ne (j := j) hjl)
          obtain ⟨y, hy, hy0, hy1, hyc⟩ := cell_lo (j := j) Hbl.out.1 hcb hjl
          clear hcb
          obtain ⟨z, hz, hz0, hz1, hzc⟩ := hr.lo hrel.out.2.1 (i := k + j) (by have := hkM.out; omega)
          have hzf := hr.frozen (k + j)
          have hxy := mul_le_limb hx0 hx1 hy0 hy1
          have hxy0 := hxy.1
          have hxy1 := hxy.2
          clear hxy
          go_wp2
          go_quiet (fail)
          go_wp2
          go_roundw
          case rel =>
            refine ⟨j + 1, M.set (k + j) ((cy + z + x * y) % 1000000000).toNat, (cy + z + x * y) / 1000000000, by omega, by go_num, rfl, by omega, by omega, (hr.drewN _).setNum (k + j) _ _ (by omega), (below_drewN hbw _).setCell (Nat.le_refl _) _,
              by have := hsz.out; simpa [Hid, World.setCell] using this, by rw [List.length_set]; exact hrel.out.1, lo_set hrel.out.2.1 (by omega), fun i hi => by rw [getD_set_ne (by omega)]; exact hrel.out.2.2.1 i hi, ?_⟩
            rw [← hx.out]
            exact mul_step (by have := hkM.out; omega) hy.out hz.out (t := cy + z + x * y) (c := cy) (c' := (cy + z + x * y) / 1000000000) (r := (cy + z + x * y) % 1000000000) (by omega) (by omega) (by omega) (by rw [hx.out]; exact hrel.out.2.2.2)
          case measure => simp [intOf]; omega
        · obtain rfl : j = b.length := by omega
          obtain ⟨z, hz, hz0, hzc⟩ := hr.num (i := k + b.length) hkM.out
          have hzf := hr.frozen (k + b.length)
          go_wp2
          go_roundw
          case rel =>
            exact ⟨k + 1, M.set (k + b.length) cy.toNat, by omega, by go_num, hr.setNum (k + b.length) _ _ (by omega), hbw.setCell (Nat.le_refl _) _,
              by have := hsz.out; simpa [Hid, World.setCell] using this, by rw [List.length_set]; exact hrel.out.1, lo_set hrel.out.2.1 (by omega), fun i hi => by rw [getD_set_ne (by omega)]; exact hrel.out.2.2.1 i (by omega),
              mul_row rfl hkM.out rfl (hrel.out.2.2.1 _ (Nat.le_refl _)) hcy0 HR.out.2.2.2 hrel.out.2.2.2⟩
          case measure => simp [intOf]; omega
    · obtain rfl : k = a.length := by omega
      have H1 : Hid (Row wr G 34 (cel .u32 L) ∧ val L = x * y ∧ L.length = a.length + b.length ∧ Lo L) := ⟨hr, by have := hrel.out.2.2.2; rw [val_take_all (Nat.le_refl _), Hal.out.2, Hbl.out.2] at this; exact this, hrel.out.1, hrel.out.2.1⟩
      clear hr hrel
      go_wp2_with fail
      rw [← H1.out.2.2.1]
      refine (rtrim_list _ _ L wr G (G + 1) H1.out.2.2.2 (Nat.le_refl _) (by have := H1.out.2.2.1; unfold maxLen; omega) H1.out.1.sv).mono ?_
      rintro e w2 ⟨⟨v, rfl, hv⟩, rfl⟩
      go_wp2_with fail
      go_ret
      refine ⟨⟨_, rfl, ?_⟩, hbw'⟩
      rw [← H1.out.2.1]
      exact hv.wide (by have := hG.out; omega) (by have := hsz.out; omega)
end Go.Proofs.YtbeocfiimminiaaDoor
