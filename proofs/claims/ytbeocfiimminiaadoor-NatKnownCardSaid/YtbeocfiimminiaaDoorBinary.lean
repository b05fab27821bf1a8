/-
  The contract of package long's binary: the greatest common divisor of two words.
-/
import Derived.Test.YtbeocfiimminiaaDoorTz
import Derived.Test.YtbeocfiimminiaaDoorPlainG
import Derived.IntWalk
namespace Go.Proofs.YtbeocfiimminiaaDoor
open Go.RowKit
set_option linter.unusedVariables false

theorem shr_cast {x k m : Nat} (h : x = 2 ^ k * (2 * m + 1)) : (x : Int) / 2 ^ k = ((2 * m + 1 : Nat) : Int) := by
  have := shift_odd h
  rw [← this]
  simp

set_option maxHeartbeats 1000000 in
theorem binary_pos (a b : Nat) (w : World) (hB : Bru w) (ha : 1 ≤ a) (hb : 1 ≤ b) (ha9 : a < 18446744073709551616) (hb9 : b < 18446744073709551616) :
    Calls Tryd.prog 60 #[.int .u64 (a : Int), .int .u64 (b : Int)] w fun e w' => e = .returned (.int .u64 (Nat.gcd a b : Nat)) ∧ w = w' := by
  have h1 : ((a : Int) == 0) = false := beq_eq_false_iff_ne.2 (by omega)
  have h2 : ((b : Int) == 0) = false := beq_eq_false_iff_ne.2 (by omega)
  have HB := Lib.hid hB; clear hB
  have hor := Lib.hid (bits_or_u64_nat a b ha9 hb9)
  have hle : Hid (a ||| b < 18446744073709551616 ∧ a ||| b ≠ 0) := ⟨Nat.or_lt_two_pow (n := 64) (by omega) (by omega), by have := Nat.left_le_or (n := a) (m := b); omega⟩
  have hgl : Hid (Nat.gcd a b ≤ a) := Nat.le_of_dvd (by omega) (Nat.gcd_dvd_left a b)
  go_enter Tryd.func60, Tryd.ntmps60
  go_wp2_with fail
  rw [hor.out]
  obtain ⟨k, m, hk, hkm, hc⟩ := tz_n (a ||| b) w HB.out hle.out.2 hle.out.1
  have Hab := Lib.hid hkm; clear hkm
  refine hc.mono ?_
  clear hc
  rintro e w1 ⟨rfl, rfl⟩
  go_wp2_with fail
  obtain ⟨k2, m2, hk2, hkm2, hc2⟩ := tz_n a w HB.out (by omega) ha9
  have Hkm2 := Lib.hid hkm2
  have hsh := Lib.hid (shr_cast hkm2)
  have hol := odd_le hkm2
  clear hkm2
  refine hc2.mono ?_
  clear hc2
  rintro e w1 ⟨rfl, rfl⟩
  go_wp2_with fail
  rw [hsh.out]
  have hCo : (2 * m2 + 1) % 2 = 1 := by omega
  have HCo := Lib.hid hCo
  have hst := Lib.hid (bin_start Hab.out Hkm2.out)
  clear hCo Hkm2 Hab
  generalize hC : 2 * m2 + 1 = C at *
  have HC := Lib.hid hC
  have hC1 : 1 ≤ C := by omega
  clear hC
  go_loop [0, 1] (fun s0 s1 => ∃ (A B : Nat), s0 = .int .u64 (A : Int) ∧ s1 = .int .u64 (B : Int) ∧ 1 ≤ A ∧ A < 18446744073709551616 ∧ B < 18446744073709551616 ∧ Hid (A % 2 = 1 ∧ Nat.gcd A B = Nat.gcd C b)) (fun s0 s1 => (intOf s0).toNat + (intOf s1).toNat)
  case atStart => exact ⟨C, b, rfl, rfl, by omega, by omega, hb9, HCo.out, rfl⟩
  case round =>
    obtain ⟨A, B, rfl, rfl, hA1, hA9, hB9, hrel⟩ := hrel
    rcases Nat.eq_zero_or_pos B with h0 | h0
    · subst h0
      have hG : Hid (A = Nat.gcd C b) := by
        have := hrel.out.2
        rw [Nat.gcd_zero_right] at this
        exact this
      have hfin : Hid (IntKind.u64.wrap ((A : Int) * 2 ^ k) = ((Nat.gcd a b : Nat) : Int)) := by
        unfold Hid
        have e1 := hst.out
        rw [← hG.out, Nat.mul_comm] at e1
        have e2 : ((A : Int) * 2 ^ k) = ((A * 2 ^ k : Nat) : Int) := by simp
        rw [e2, ← e1, IntKind.wrap_u64]
        have := hgl.out
        omega
      go_wp2
      go_ret
      exact ⟨ret_int hfin.out, rfl⟩
    · have hne : ((B : Int) != 0) = true := by rw [bne_iff_ne]; omega
      go_wp2_with fail
      obtain ⟨j, n, hj, hjn, hc3⟩ := tz_n B w HB.out (by omega) hB9
      have hsh2 := shr_cast hjn
      have hol2 := odd_le hjn
      have Hst := Lib.hid (bin_step hrel.out.1 hjn hrel.out.2)
      have Hsh2 := Lib.hid hsh2
      clear hsh2 hjn
      refine hc3.mono ?_
      clear hc3
      rintro e w1 ⟨rfl, rfl⟩
      have hsh3 := Hsh2.out
      generalize hD : 2 * n + 1 = D at *
      have HD := Lib.hid hD
      clear hD
      have hD1 : 1 ≤ D ∧ D % 2 = 1 := by have := HD.out; omega
      obtain ⟨hD1, hD2⟩ := hD1
      have HD2 := Lib.hid hD2
      clear hD2
      rcases Nat.lt_or_ge D A with hlt | hge
      · go_wp2
        go_round
        case rel => exact ⟨D, A - D, rfl, by go_num, by omega, by omega, by omega, HD2.out, Hst.out.1 hlt⟩
        case measure => simp [intOf]; omega
      · go_wp2
        go_round
        case rel => exact ⟨A, D - A, rfl, by go_num, hA1, hA9, by omega, hrel.out.1, Hst.out.2 hge⟩
        case measure => simp [intOf]; omega

theorem binary_n (a b : Nat) (w : World) (hB : Bru w) (ha9 : a < 18446744073709551616) (hb9 : b < 18446744073709551616) :
    Calls Tryd.prog 60 #[.int .u64 (a : Int), .int .u64 (b : Int)] w fun e w' => e = .returned (.int .u64 (Nat.gcd a b : Nat)) ∧ w = w' := by
  rcases Nat.eq_zero_or_pos a with h0 | h0
  · subst h0
    have H := Lib.hid (Nat.gcd_zero_left b)
    clear hB
    go_enter Tryd.func60, Tryd.ntmps60
    go_wp2
    go_ret
    exact ⟨ret_int (by rw [H.out]), rfl⟩
  · rcases Nat.eq_zero_or_pos b with h1 | h1
    · subst h1
      have H := Lib.hid (Nat.gcd_zero_right a)
      have hne : ((a : Int) == 0) = false := beq_eq_false_iff_ne.2 (by omega)
      clear hB
      go_enter Tryd.func60, Tryd.ntmps60
      go_wp2
      go_ret
      exact ⟨ret_int (by rw [H.out]), rfl⟩
    · exact binary_pos a b w hB h0 h1 ha9 hb9

/-- The same of two numbers of which their bounds are told. -/
theorem binary_i (a b : Int) (w : World) (hB : Bru w) (ha0 : 0 ≤ a) (hb0 : 0 ≤ b) (ha9 : a < 18446744073709551616) (hb9 : b < 18446744073709551616) :
    Calls Tryd.prog 60 #[.int .u64 a, .int .u64 b] w fun e w' => e = .returned (.int .u64 (Nat.gcd a.toNat b.toNat : Nat)) ∧ w = w' := by
  obtain ⟨m, rfl⟩ := Int.eq_ofNat_of_zero_le ha0
  obtain ⟨n, rfl⟩ := Int.eq_ofNat_of_zero_le hb0
  exact binary_n m n w hB (by omega) (by omega)

set_option maxHeartbeats 400000 in
/-- The number of at most two limbs as a word. -/
theorem word_n {w : World} {va : Value} {x lo hi : Nat} (ha : IsN w lo hi va x) (hx : (lim x).length ≤ 2) :
    Calls Tryd.prog 61 #[va] w fun e w' => e = .returned (.int .u64 (x : Int)) ∧ w = w' := by
  obtain ⟨A, c, rfl, _, _, hA⟩ := ha
  generalize hl : lim x = l at *
  have Hl : Hid (Lo l ∧ val l = x) := by rw [Hid, ← hl]; exact ⟨lo_lim x, val_lim x⟩
  clear hl
  have hdl : Hid (∀ k, 1 ≤ k → val (l.drop k) ≤ 999999999) := by
    intro k hk
    have h := val_lt (lo_drop Hl.out.1 k)
    have h2 : pw (l.drop k).length ≤ pw 1 := pw_mono (by rw [List.length_drop]; omega)
    rw [pw_one] at h2
    omega
  go_enter Tryd.func61, Tryd.ntmps61
  go_wp2
  go_loop [3, 4] (fun n i => ∃ (k m : Nat), k ≤ l.length ∧ n = .int .u64 (m : Int) ∧ i = .int .i64 ((k : Int) - 1) ∧ Hid (m = val (l.drop k))) (fun _ i => ((intOf i) + 1).toNat)
  case atStart => exact ⟨l.length, 0, Nat.le_refl _, rfl, rfl, by rw [Hid, List.drop_length]; rfl⟩
  case round =>
    obtain ⟨k, m, hk, rfl, rfl, hm⟩ := hrel
    rcases k with _ | k
    · have hfin : Hid (m = x) := by have := hm.out; rw [List.drop_zero, Hl.out.2] at this; exact this
      go_wp2
      go_ret
      exact ⟨ret_int (by rw [hfin.out]), rfl⟩
    · have hk1 : ((k + 1 : Nat) : Int) - 1 = (k : Int) := by omega
      rw [hk1]
      clear hk1
      obtain ⟨b, off, rfl, _, _, hca⟩ := hA (cel_ne (j := k) hk)
      obtain ⟨y, hy, hy0, hy1, hck⟩ := cell_lo (j := k) Hl.out.1 hca hk
      clear hca
      have hm9 : m ≤ 999999999 := by have := hm.out; have := hdl.out (k + 1) (by omega); omega
      go_wp2
      go_round
      case rel =>
        refine ⟨k, m * 1000000000 + y.toNat, by omega, by go_num, by go_num, ?_⟩
        have h1 := val_drop (l := l) (k := k) hk
        have := hm.out
        have := hy.out
        unfold Hid
        omega
      case measure => simp [intOf]
end Go.Proofs.YtbeocfiimminiaaDoor
