/-
  The contract of package long's mix: a combination of two numbers.
-/
import Derived.Test.YtbeocfiimminiaaDoorLongB
namespace Go.Proofs.YtbeocfiimminiaaDoor
open Go.RowKit
set_option linter.unusedVariables false

theorem mix_ring {V A B P X Y x y c c' r : Int} (h : V + c * P = X * A + Y * B) (hr : r = X * x + c + Y * y - c' * 1000000000) : V + P * r + c' * (1000000000 * P) = X * (A + P * x) + Y * (B + P * y) := by
  subst hr
  grind
/-- One limb of a combination. -/
theorem mix_step {a b L : List Nat} {k : Nat} {X Y x y c c' r : Int} (hk : k < L.length) (hx : x = (a.getD k 0 : Nat)) (hy : y = (b.getD k 0 : Nat)) (hr : r = X * x + c + Y * y - c' * 1000000000) (hr0 : 0 ≤ r)
    (h : (val (L.take k) : Int) + c * pw k = X * val (a.take k) + Y * val (b.take k)) : (val ((L.set k r.toNat).take (k + 1)) : Int) + c' * pw (k + 1) = X * val (a.take (k + 1)) + Y * val (b.take (k + 1)) := by
  have e := mix_ring h hr
  rw [val_set_take hk, val_take_succ' a, val_take_succ' b, pw_succ]
  have e1 : ((r.toNat : Nat) : Int) = r := Int.toNat_of_nonneg hr0
  simp only [Int.natCast_add, Int.natCast_mul, e1, ← hx, ← hy]
  exact e
/-- Its end. -/
theorem mix_end {V P c : Int} {R : Nat} (hV0 : 0 ≤ V) (hV : V < P) (hR : (R : Int) < P) (h : V + c * P = R) : V = R := by
  have hP : 0 < P := by omega
  rcases Int.lt_trichotomy c 0 with hc | hc | hc
  · have := Int.mul_le_mul_of_nonneg_right (show c ≤ -1 by omega) (Int.le_of_lt hP)
    rw [Int.neg_mul, Int.one_mul] at this
    omega
  · subst hc; omega
  · have := Int.mul_le_mul_of_nonneg_right (show 1 ≤ c by omega) (Int.le_of_lt hP)
    rw [Int.one_mul] at this
    omega
theorem mul_fits {X x : Int} (hX0 : -999999999 ≤ X) (hX1 : X ≤ 999999999) (hx0 : 0 ≤ x) (hx1 : x ≤ 999999999) : -999999998000000001 ≤ X * x ∧ X * x ≤ 999999998000000001 ∧ (0 ≤ X → 0 ≤ X * x) ∧ (X ≤ 0 → X * x ≤ 0) := by
  rcases Int.lt_or_le X 0 with h | h
  · have h1 := mul_le_limb (x := -X) (y := x) (by omega) (by omega) hx0 hx1
    rw [Int.neg_mul] at h1
    exact ⟨by omega, by omega, by omega, by omega⟩
  · have h1 := mul_le_limb (x := X) (y := x) h hX1 hx0 hx1
    refine ⟨by omega, by omega, by omega, fun h2 => ?_⟩
    have : X = 0 := by omega
    subst this
    omega

theorem tdivL {t : Int} (h : t < 0) : ∃ q, t.tdiv 1000000000 = q ∧ ((q = t / 1000000000 ∧ t % 1000000000 = 0) ∨ (q = t / 1000000000 + 1 ∧ 0 < t % 1000000000)) := by
  refine ⟨_, rfl, ?_⟩
  rw [Int.tdiv_eq_ediv]
  split
  · rename_i hd
    rcases hd with hd | hd
    · omega
    · exact .inl ⟨by omega, Int.emod_eq_zero_of_dvd hd⟩
  · rename_i hd
    refine .inr ⟨by simp, ?_⟩
    rcases Int.lt_or_le 0 (t % 1000000000) with h1 | h1
    · exact h1
    · exact absurd (.inr (Int.dvd_of_emod_eq_zero (by omega))) hd

set_option maxRecDepth 100000 in
set_option maxHeartbeats 2000000 in
theorem mix_n {w : World} {va vb : Value} {A B R lo hi lo' hi' : Nat} (x y : Int) (ha : IsN w lo hi va A) (hb : IsN w lo' hi' vb B) (hi1 : hi ≤ w.heap.size) (hi2 : hi' ≤ w.heap.size) (hx0 : -999999999 ≤ x) (hx1 : x ≤ 999999999) (hy0 : -999999999 ≤ y) (hy1 : y ≤ 999999999)
    (hs : (0 ≤ x ∧ y ≤ 0) ∨ (x ≤ 0 ∧ 0 ≤ y)) (hR : (R : Int) = x * A + y * B) (hRA : R ≤ A) (hBA : B ≤ A) (hA9 : (lim A).length ≤ 4294967296) :
    Calls Tryd.prog 65 #[va, vb, .int .i64 x, .int .i64 y] w fun e w' => (∃ v, e = .returned v ∧ IsN w' w.heap.size w'.heap.size v R) ∧ Below w.heap.size w w' := by
  have hba := lim_len_mono hBA
  have hRp : Hid (R < pw (lim A).length) := Nat.lt_of_le_of_lt hRA (lim_lt A)
  obtain ⟨AA, c, rfl, _, _, hAs⟩ := ha
  obtain ⟨BB, d, rfl, _, _, hBs⟩ := hb
  generalize hla : lim A = a at *
  generalize hlb : lim B = b at *
  have Hal : Hid (Lo a ∧ val a = A) := by rw [Hid, ← hla]; exact ⟨lo_lim A, val_lim A⟩
  have Hbl : Hid (Lo b ∧ val b = B) := by rw [Hid, ← hlb]; exact ⟨lo_lim B, val_lim B⟩
  have HR := Lib.hid hR
  clear hla hlb hR hRA hBA
  go_enter Tryd.func65, Tryd.ntmps65
  go_wp2_with (at_make; refine wp_make elN rfl _ _ rfl a.length rfl rfl rfl rfl (by omega) ?_; intro G w1 hG hrow hb1 hz1)
  go_loopw [10, 18] (fun cr i wr => ∃ (k : Nat) (L : List Nat) (cy : Int), k ≤ a.length ∧ i = .int .i64 (k : Int) ∧ cr = .int .i64 cy ∧ -1000000000 ≤ cy ∧ cy ≤ 1000000000 ∧ Row wr G 34 (cel .u32 L) ∧ Below G w wr ∧ Hid (wr.heap.size = G + 1) ∧
      Hid (L.length = a.length ∧ Lo L ∧ (val (L.take k) : Int) + cy * pw k = x * val (a.take k) + y * val (b.take k))) (fun _ i _ => a.length - (intOf i).toNat)
  case atStart => exact ⟨0, _, 0, Nat.zero_le _, rfl, rfl, by omega, by omega, hrow, hb1, hz1, by simp, lo_replicate _, by simp [val]⟩
  case round =>
    obtain ⟨k, L, cy, hk, rfl, rfl, hcy0, hcy1, hr, hbw, hsz, hrel⟩ := hrel
    have hbw' : Below w.heap.size w wr := by have := hG.out; subst this; exact hbw
    rcases Nat.lt_or_ge k a.length with hlt | hge
    · obtain ⟨ba, oa, rfl, _, _, hca⟩ := (hAs.below hbw' hi1) (cel_ne (j := k) hlt)
      obtain ⟨u, hu, hu0, hu1, huc⟩ := cell_lo (j := k) Hal.out.1 hca hlt
      clear hca
      obtain ⟨z, hz, hz0, hzc⟩ := hr.num (i := k) (by rw [hrel.out.1]; exact hlt)
      have hzf := hr.frozen k
      have hkL : Hid (k < L.length) := by rw [hrel.out.1]; exact hlt
      obtain ⟨p0, p1, p2, p3⟩ := mul_fits hx0 hx1 hu0 hu1
      rcases Nat.lt_or_ge k b.length with hlb | hgb
      · obtain ⟨bb, ob, rfl, _, _, hcb⟩ := (hBs.below hbw' hi2) (cel_ne (j := k) hlb)
        obtain ⟨v, hv, hv0, hv1, hvc⟩ := cell_lo (j := k) Hbl.out.1 hcb hlb
        clear hcb
        obtain ⟨q0, q1, q2, q3⟩ := mul_fits hy0 hy1 hv0 hv1
        have s0 : -999999998000000001 ≤ x * u + y * v := by rcases hs with ⟨h1, h2⟩ | ⟨h1, h2⟩ <;> (have := p2; have := p3; have := q2; have := q3; omega)
        have s1 : x * u + y * v ≤ 999999998000000001 := by rcases hs with ⟨h1, h2⟩ | ⟨h1, h2⟩ <;> (have := p2; have := p3; have := q2; have := q3; omega)
        clear p2 p3 q2 q3
        rcases Int.lt_or_le (x * u + cy + y * v) 0 with hneg | hpos
        · obtain ⟨q, hq, ⟨q1, q2⟩ | ⟨q1, q2⟩⟩ := tdivL hneg
          · have hq0 : -1000000001 ≤ q := by omega
            have hq1 : q ≤ 0 := by omega
            have hq2 : x * u + cy + y * v - q * 1000000000 = 0 := by omega
            go_wp2
            go_roundw
            case rel =>
              refine ⟨k + 1, L.set k ((x * u + cy + y * v) % 1000000000).toNat, (x * u + cy + y * v) / 1000000000, by omega, by go_num, int_eq (by omega), by omega, by omega, ?_, hbw.setCell (Nat.le_refl _) _, by have := hsz.out; simpa [Hid, World.setCell] using this, by rw [List.length_set]; exact hrel.out.1, lo_set hrel.out.2.1 (by omega), mix_step (x := u) (y := v) (c := cy) (c' := (x * u + cy + y * v) / 1000000000) (r := (x * u + cy + y * v) % 1000000000) hkL.out hu.out hv.out (by omega) (by omega) hrel.out.2.2⟩
              exact hr.setNum k _ _ (by omega)
            case measure => simp [intOf]; omega
          · have hq0 : -1000000001 ≤ q := by omega
            have hq1 : q ≤ 0 := by omega
            have hq2 : x * u + cy + y * v - q * 1000000000 < 0 := by omega
            have hq3 : -1000000000 < x * u + cy + y * v - q * 1000000000 := by omega
            go_wp2
            go_roundw
            case rel =>
              refine ⟨k + 1, L.set k ((x * u + cy + y * v) % 1000000000).toNat, (x * u + cy + y * v) / 1000000000, by omega, by go_num, int_eq (by omega), by omega, by omega, ?_, hbw.setCell (Nat.le_refl _) _, by have := hsz.out; simpa [Hid, World.setCell] using this, by rw [List.length_set]; exact hrel.out.1, lo_set hrel.out.2.1 (by omega), mix_step (x := u) (y := v) (c := cy) (c' := (x * u + cy + y * v) / 1000000000) (r := (x * u + cy + y * v) % 1000000000) hkL.out hu.out hv.out (by omega) (by omega) hrel.out.2.2⟩
              exact hr.setNum k _ _ (by omega)
            case measure => simp [intOf]; omega
        · go_wp2
          go_roundw
          case rel =>
            refine ⟨k + 1, L.set k ((x * u + cy + y * v) % 1000000000).toNat, (x * u + cy + y * v) / 1000000000, by omega, by go_num, int_eq (by omega), by omega, by omega, ?_, hbw.setCell (Nat.le_refl _) _, by have := hsz.out; simpa [Hid, World.setCell] using this, by rw [List.length_set]; exact hrel.out.1, lo_set hrel.out.2.1 (by omega), mix_step (x := u) (y := v) (c := cy) (c' := (x * u + cy + y * v) / 1000000000) (r := (x * u + cy + y * v) % 1000000000) hkL.out hu.out hv.out (by omega) (by omega) hrel.out.2.2⟩
            exact hr.setNum k _ _ (by omega)
          case measure => simp [intOf]; omega
      · clear p2 p3
        rcases Int.lt_or_le (x * u + cy) 0 with hneg | hpos
        · obtain ⟨q, hq, ⟨q1, q2⟩ | ⟨q1, q2⟩⟩ := tdivL hneg
          · have hq0 : -1000000001 ≤ q := by omega
            have hq1 : q ≤ 0 := by omega
            have hq2 : x * u + cy - q * 1000000000 = 0 := by omega
            go_wp2
            go_roundw
            case rel =>
              refine ⟨k + 1, L.set k ((x * u + cy) % 1000000000).toNat, (x * u + cy) / 1000000000, by omega, by go_num, int_eq (by omega), by omega, by omega, ?_, hbw.setCell (Nat.le_refl _) _, by have := hsz.out; simpa [Hid, World.setCell] using this, by rw [List.length_set]; exact hrel.out.1, lo_set hrel.out.2.1 (by omega), mix_step (x := u) (y := 0) (c := cy) (c' := (x * u + cy) / 1000000000) (r := (x * u + cy) % 1000000000) hkL.out hu.out (by rw [getD_end hgb]; rfl) (by omega) (by omega) hrel.out.2.2⟩
              exact hr.setNum k _ _ (by omega)
            case measure => simp [intOf]; omega
          · have hq0 : -1000000001 ≤ q := by omega
            have hq1 : q ≤ 0 := by omega
            have hq2 : x * u + cy - q * 1000000000 < 0 := by omega
            have hq3 : -1000000000 < x * u + cy - q * 1000000000 := by omega
            go_wp2
            go_roundw
            case rel =>
              refine ⟨k + 1, L.set k ((x * u + cy) % 1000000000).toNat, (x * u + cy) / 1000000000, by omega, by go_num, int_eq (by omega), by omega, by omega, ?_, hbw.setCell (Nat.le_refl _) _, by have := hsz.out; simpa [Hid, World.setCell] using this, by rw [List.length_set]; exact hrel.out.1, lo_set hrel.out.2.1 (by omega), mix_step (x := u) (y := 0) (c := cy) (c' := (x * u + cy) / 1000000000) (r := (x * u + cy) % 1000000000) hkL.out hu.out (by rw [getD_end hgb]; rfl) (by omega) (by omega) hrel.out.2.2⟩
              exact hr.setNum k _ _ (by omega)
            case measure => simp [intOf]; omega
        · go_wp2
          go_roundw
          case rel =>
            refine ⟨k + 1, L.set k ((x * u + cy) % 1000000000).toNat, (x * u + cy) / 1000000000, by omega, by go_num, int_eq (by omega), by omega, by omega, ?_, hbw.setCell (Nat.le_refl _) _, by have := hsz.out; simpa [Hid, World.setCell] using this, by rw [List.length_set]; exact hrel.out.1, lo_set hrel.out.2.1 (by omega), mix_step (x := u) (y := 0) (c := cy) (c' := (x * u + cy) / 1000000000) (r := (x * u + cy) % 1000000000) hkL.out hu.out (by rw [getD_end hgb]; rfl) (by omega) (by omega) hrel.out.2.2⟩
            exact hr.setNum k _ _ (by omega)
          case measure => simp [intOf]; omega
    · obtain rfl : k = a.length := by omega
      have hV : Hid (val L = R) := by
        have h := hrel.out.2.2
        rw [val_take_all (Nat.le_of_eq hrel.out.1), val_take_all (Nat.le_refl _), val_take_all hba, Hal.out.2, Hbl.out.2, ← HR.out] at h
        have h1 := val_lt hrel.out.2.1
        rw [hrel.out.1] at h1
        have h2 := hRp.out
        exact Int.ofNat_inj.1 (mix_end (by omega) (by omega) (by omega) h)
      have H1 : Hid (Row wr G 34 (cel .u32 L) ∧ L.length = a.length ∧ Lo L) := ⟨hr, hrel.out.1, hrel.out.2.1⟩
      clear hr hrel
      go_wp2_with fail
      rw [← H1.out.2.1]
      refine (trim_list _ _ L wr G (G + 1) H1.out.2.2 (Nat.le_refl _) (by have := H1.out.2.1; unfold maxLen; omega) H1.out.1.sv).mono ?_
      rintro e w2 ⟨⟨v, rfl, hv⟩, rfl⟩
      go_wp2_with fail
      go_ret
      refine ⟨⟨_, rfl, ?_⟩, hbw'⟩
      rw [← hV.out]
      exact hv.wide (by have := hG.out; omega) (by have := hsz.out; omega)
end Go.Proofs.YtbeocfiimminiaaDoor
