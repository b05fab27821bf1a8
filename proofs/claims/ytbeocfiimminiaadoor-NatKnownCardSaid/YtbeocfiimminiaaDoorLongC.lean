/-
  The contracts of package long's short, times.
-/
import Derived.Test.YtbeocfiimminiaaDoorLongB
namespace Go.Proofs.YtbeocfiimminiaaDoor
open Go.RowKit
set_option linter.unusedVariables false

set_option maxHeartbeats 400000 in
theorem short_list (A : Option Addr) (c : Nat) (a : List Nat) (b : Int) (w : World) (lo hi : Nat) (hi1 : hi ≤ w.heap.size) (ha : Lo a) (hal : a.length ≤ 4294967296) (hb0 : 1 ≤ b) (hb1 : b ≤ 999999999)
    (hA : SV w lo hi A (cel .u32 a)) :
    Calls Tryd.prog 53 #[.slice A a.length c, .int .u32 b] w fun e w' => (∃ v, e = .returned (.tuple #[v, .int .u32 ((val a % b.toNat : Nat) : Int)]) ∧ IsN w' w.heap.size w'.heap.size v (val a / b.toNat)) ∧ Below w.heap.size w w' := by
  have Ha := Lib.hid ha; clear ha
  go_enter Tryd.func53, Tryd.ntmps53
  go_wp2_with (at_make; refine wp_make elN rfl _ _ rfl a.length rfl rfl rfl rfl (by omega) ?_; intro G w1 hG hrow hb1 hz1)
  go_loopw [7, 8] (fun rs i wr => ∃ k : Nat, ∃ L : List Nat, ∃ r : Int, k ≤ a.length ∧ i = .int .i64 ((k : Int) - 1) ∧ rs = .int .u64 r ∧ 0 ≤ r ∧ r ≤ b - 1 ∧ Row wr G 34 (cel .u32 L) ∧ Below G w wr ∧ Hid (wr.heap.size = G + 1) ∧
      Hid (L.length = a.length ∧ Lo L ∧ (val (a.drop k) : Int) = val (L.drop k) * b + r)) (fun _ i _ => (intOf i + 1).toNat)
  case atStart => exact ⟨a.length, _, 0, Nat.le_refl _, rfl, rfl, by omega, by omega, hrow, hb1, hz1, by simp, lo_replicate _, by simp [val]⟩
  case round =>
    obtain ⟨k, L, r, hk, rfl, rfl, hr0, hr1, hr, hbw, hsz, hrel⟩ := hrel
    have hbw' : Below w.heap.size w wr := by have := hG.out; subst this; exact hbw
    rcases k with _ | k
    · have he := short_end (by omega) hr0 hr1 hrel.out.2.2
      have H1 : Hid (Row wr G 34 (cel .u32 L) ∧ L.length = a.length ∧ Lo L) := ⟨hr, hrel.out.1, hrel.out.2.1⟩
      have H2 := Lib.hid he
      clear hr hrel he
      go_wp2_with fail
      rw [← H1.out.2.1]
      refine (trim_list _ _ L wr G (G + 1) H1.out.2.2 (Nat.le_refl _) (by have := H1.out.2.1; unfold maxLen; omega) H1.out.1.sv).mono ?_
      rintro e w2 ⟨⟨v, rfl, hv⟩, rfl⟩
      go_wp2_with fail
      go_ret2
      refine ⟨⟨v, ?_, ?_⟩, hbw'⟩
      · rw [← H2.out.2, Int.toNat_of_nonneg hr0]; rfl
      · rw [← H2.out.1]
        exact hv.wide (by have := hG.out; omega) (by have := hsz.out; omega)
    · obtain ⟨ba, oa, rfl, _, _, hca⟩ := (hA.below hbw' hi1) (cel_ne (j := k) hk)
      obtain ⟨x, hx, hx0, hx1, hxc⟩ := cell_lo (j := k) Ha.out hca hk
      clear hca
      obtain ⟨z, hz, hz0, hzc⟩ := hr.num (i := k) (by rw [hrel.out.1]; exact hk)
      have hzf := hr.frozen k
      have hq := short_bounds hr0 hr1 hx0 hx1
      have hq0 := hq.1
      have hq1 := hq.2.1
      have hq2 := hq.2.2.1
      have hq3 := hq.2.2.2
      clear hq
      rw [show (((k + 1 : Nat) : Int) - 1) = (k : Int) from by omega]
      go_wp2
      go_roundw
      case rel =>
        exact ⟨k, L.set k ((r * 1000000000 + x) / b).toNat, (r * 1000000000 + x) % b, by omega, rfl, rfl, hq2, hq3, hr.setNum k _ _ (by omega), hbw.setCell (Nat.le_refl _) _, by have := hsz.out; simpa [Hid, World.setCell] using this,
          by rw [List.length_set]; exact hrel.out.1, lo_set hrel.out.2.1 (by omega), short_step hk hrel.out.1 hx.out hq0 hrel.out.2.2⟩
      case measure => simp [intOf]

theorem short_n {w : World} {va : Value} {x lo hi : Nat} {b : Int} (ha : IsN w lo hi va x) (hi1 : hi ≤ w.heap.size) (hx : (lim x).length ≤ 4294967296) (hb0 : 1 ≤ b) (hb1 : b ≤ 999999999) :
    Calls Tryd.prog 53 #[va, .int .u32 b] w fun e w' => (∃ v r, e = .returned (.tuple #[v, .int .u32 r]) ∧ 0 ≤ r ∧ r ≤ 999999999 ∧ Hid (r.toNat = x % b.toNat) ∧ IsN w' w.heap.size w'.heap.size v (x / b.toNat)) ∧ Below w.heap.size w w' := by
  obtain ⟨A, c, rfl, _, _, hA⟩ := ha
  have h := short_list A c (lim x) b w _ _ hi1 (lo_lim x) hx hb0 hb1 hA
  rw [val_lim] at h
  refine h.mono ?_
  rintro e w' ⟨⟨v, rfl, hv⟩, hb⟩
  exact ⟨⟨v, _, rfl, by omega, by have := Nat.mod_lt x (show 0 < b.toNat by omega); omega, rfl, hv⟩, hb⟩

set_option maxHeartbeats 400000 in
theorem times_list (A : Option Addr) (c : Nat) (a : List Nat) (x : Int) (n : Nat) (w : World) (lo hi : Nat) (hi1 : hi ≤ w.heap.size) (ha : Lo a) (hal : a.length ≤ n) (hn : n ≤ 8589934592) (hx0 : 0 ≤ x) (hx1 : x ≤ 999999999) (hfit : val a * x.toNat < pw n)
    (hA : SV w lo hi A (cel .u32 a)) :
    Calls Tryd.prog 54 #[.slice A a.length c, .int .u64 x, .int .i64 (n : Int)] w fun e w' => (∃ g L, e = .returned (.slice (some ⟨g, 0, none⟩) n n) ∧ w.heap.size ≤ g ∧ Row w' g 34 (cel .u32 L) ∧ L.length = n ∧ Lo L ∧ val L = val a * x.toNat) ∧ Below w.heap.size w w' := by
  have Ha := Lib.hid ha; clear ha
  have Hf := Lib.hid hfit; clear hfit
  go_enter Tryd.func54, Tryd.ntmps54
  go_wp2_with (at_make; refine wp_make elN rfl _ _ rfl n rfl rfl rfl rfl (by omega) ?_; intro G w1 hG hrow hb1 hz1)
  go_loopw [8, 14] (fun cr i wr => ∃ k : Nat, ∃ L : List Nat, ∃ cy : Int, k ≤ n ∧ i = .int .i64 (k : Int) ∧ cr = .int .u64 cy ∧ 0 ≤ cy ∧ cy ≤ 999999999 ∧ Row wr G 34 (cel .u32 L) ∧ Below G w wr ∧
      Hid (L.length = n ∧ Lo L ∧ (val (L.take k) : Int) + cy * pw k = val (a.take k) * x)) (fun _ i _ => n - (intOf i).toNat)
  case atStart => exact ⟨0, _, 0, Nat.zero_le _, rfl, rfl, by omega, by omega, hrow, hb1, by simp, lo_replicate _, by simp [val]⟩
  case round =>
    obtain ⟨k, L, cy, hk, rfl, rfl, hc0, hc1, hr, hbw, hrel⟩ := hrel
    have hbw' : Below w.heap.size w wr := by have := hG.out; subst this; exact hbw
    rcases Nat.lt_or_ge k n with hlt | hge
    · obtain ⟨z, hz, hz0, hzc⟩ := hr.num (i := k) (by rw [hrel.out.1]; exact hlt)
      have hzf := hr.frozen k
      have hkL : Hid (k < L.length) := by rw [hrel.out.1]; exact hlt
      rcases Nat.lt_or_ge k a.length with hlk | hgk
      · obtain ⟨ba, oa, rfl, _, _, hca⟩ := (hA.below hbw' hi1) (cel_ne (j := k) hlk)
        obtain ⟨y, hy, hy0, hy1, hyc⟩ := cell_lo (j := k) Ha.out hca hlk
        clear hca
        have hxy := mul_le_limb hy0 hy1 hx0 hx1
        have hxy0 := hxy.1
        have hxy1 := hxy.2
        clear hxy
        go_wp2
        go_roundw
        case rel =>
          exact ⟨k + 1, L.set k ((cy + y * x) % 1000000000).toNat, (cy + y * x) / 1000000000, by omega, by go_num, rfl, by omega, by omega, hr.setNum k _ _ (by omega), hbw.setCell (Nat.le_refl _) _,
            by rw [List.length_set]; exact hrel.out.1, lo_set hrel.out.2.1 (by omega), times_step hkL.out hy.out (by omega) (by omega) hrel.out.2.2⟩
        case measure => simp [intOf]; omega
      · go_wp2
        go_roundw
        case rel =>
          exact ⟨k + 1, L.set k (cy % 1000000000).toNat, cy / 1000000000, by omega, by go_num, rfl, by omega, by omega, hr.setNum k _ _ (by omega), hbw.setCell (Nat.le_refl _) _,
            by rw [List.length_set]; exact hrel.out.1, lo_set hrel.out.2.1 (by omega), times_step (y := 0) hkL.out (by rw [getD_end hgk]; rfl) (by omega) (by omega) hrel.out.2.2⟩
        case measure => simp [intOf]; omega
    · obtain rfl : k = n := by omega
      go_wp2
      go_ret
      refine ⟨⟨G, L, rfl, by have := hG.out; omega, hr, hrel.out.1, hrel.out.2.1, ?_⟩, hbw'⟩
      have h := hrel.out.2.2
      rw [val_take_all (Nat.le_of_eq hrel.out.1), val_take_all hal] at h
      obtain ⟨m, rfl⟩ := Int.eq_ofNat_of_zero_le hx0
      obtain ⟨y, rfl⟩ := Int.eq_ofNat_of_zero_le hc0
      have hf := Hf.out
      simp only [Int.toNat_natCast] at hf ⊢
      have h2 : val L + y * pw k = val a * m := by
        apply Int.ofNat_inj.1
        simpa using h
      rcases Nat.eq_zero_or_pos y with h0 | h0
      · subst h0; omega
      · have := Nat.mul_le_mul_right (pw k) h0
        omega

theorem times_n {w : World} {va : Value} {x lo hi : Nat} {F sz : Int} (ha : IsN w lo hi va x) (hi1 : hi ≤ w.heap.size) (n : Nat) (hsz : sz = (n : Int)) (hxn : (lim x).length ≤ n) (hn : n ≤ 8589934592) (hF0 : 0 ≤ F) (hF1 : F ≤ 999999999) (hfit : x * F.toNat < pw n) :
    Calls Tryd.prog 54 #[va, .int .u64 F, .int .i64 sz] w fun e w' => (∃ g L, e = .returned (.slice (some ⟨g, 0, none⟩) n n) ∧ w.heap.size ≤ g ∧ Row w' g 34 (cel .u32 L) ∧ L.length = n ∧ Lo L ∧ val L = x * F.toNat) ∧ Below w.heap.size w w' := by
  subst hsz
  obtain ⟨A, c, rfl, _, _, hA⟩ := ha
  have h := times_list A c (lim x) F n w _ _ hi1 (lo_lim x) hxn hn hF0 hF1 (by rw [val_lim]; exact hfit) hA
  rw [val_lim] at h
  exact h
end Go.Proofs.YtbeocfiimminiaaDoor
