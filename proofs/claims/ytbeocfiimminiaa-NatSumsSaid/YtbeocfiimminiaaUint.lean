/-
  The contracts of long.Uint and of package nat's Int.
-/
import Derived.Test.YtbeocfiimminiaaBits
import Derived.Test.YtbeocfiimminiaaNatA
namespace Go.Proofs.Ytbeocfiimminiaa
open Go.RowKit
set_option linter.unusedVariables false

/-- Mul64 by a limb's base, with results of their own names. -/
theorem mul64_limb (x : Int) (h0 : 0 ≤ x) (h1 : x ≤ 18446744073709551615) : ∃ H L : Int, Hid (x * 1000000000 = H * 18446744073709551616 + L) ∧ 0 ≤ H ∧ H ≤ 999999999 ∧ 0 ≤ L ∧ L ≤ 18446744073709551615 ∧
    ∀ w, Calls Try.prog 52 #[.int .u64 x, .int .u64 1000000000] w fun e w' => e = .returned (.tuple #[.int .u64 H, .int .u64 L]) ∧ w' = w := by
  obtain ⟨n, rfl⟩ := Int.eq_ofNat_of_zero_le h0
  have hn : n < 18446744073709551616 := by omega
  have e := Nat.div_add_mod (n * 1000000000) 18446744073709551616
  refine ⟨((n * 1000000000 / 18446744073709551616 : Nat) : Int), ((n * 1000000000 % 18446744073709551616 : Nat) : Int), ?_, by omega, by omega, by omega, by omega, fun w => ?_⟩
  · unfold Hid; omega
  · exact mul64_n n 1000000000 hn (by omega) w
/-- Add64 without a carry, with results of their own names. -/
theorem add64_at (x y : Int) (hx : 0 ≤ x) (hx1 : x ≤ 18446744073709551615) (hy : 0 ≤ y) (hy1 : y ≤ 18446744073709551615) : ∃ S C : Int, Hid (x + y = C * 18446744073709551616 + S) ∧ 0 ≤ S ∧ S ≤ 18446744073709551615 ∧ 0 ≤ C ∧ C ≤ 1 ∧
    ∀ w : World, (callFunc 53 #[.int .u64 x, .int .u64 y, .int .u64 0]).run Try.prog w = .ok (.value (.tuple #[.int .u64 S, .int .u64 C])) w := by
  refine ⟨(x + y + 0) % 18446744073709551616, (x + y + 0) / 18446744073709551616, by unfold Hid; omega, by omega, by omega, by omega, by omega, fun w => add64_run x y 0 hx hy (by omega) (by omega) w⟩

/-- One limb more of a number that is read from its end. -/
theorem uint_step {n i : Nat} {q a H L S C : Int} (hq : q = (n / pw (i + 1) : Nat)) (ha : a = ((lim n).getD i 0 : Nat)) (hm : q * 1000000000 = H * 18446744073709551616 + L) (hs : L + a = C * 18446744073709551616 + S) :
    ((n / pw i : Nat) : Int) = (H + C) * 18446744073709551616 + S := by
  have h1 : n / pw i = n / pw (i + 1) * 1000000000 + n / pw i % 1000000000 := by
    have e : n / pw (i + 1) = n / pw i / 1000000000 := by rw [pw_succ, Nat.mul_comm, Nat.div_div_eq_div_mul]
    rw [e]; omega
  rw [lim_getD] at ha
  omega

/-- What Uint returns. -/
def u64v (n : Nat) : Int := if n < 18446744073709551616 then (n : Int) else 0
def u64b (n : Nat) : Bool := decide (n < 18446744073709551616)
theorem u64_in {n : Nat} (h : n < 18446744073709551616) : u64v n = n ∧ u64b n = true := by simp [u64v, u64b, h]
theorem u64_out {n : Nat} (h : ¬ n < 18446744073709551616) : u64v n = 0 ∧ u64b n = false := by simp only [u64v, u64b, h, if_false, decide_false, and_self]
theorem ret_ub {k : IntKind} {u u' : Int} {b b' : Bool} (h : u = u') (h2 : b = b') : Ending.returned (.tuple #[.int k u, .bool b]) = .returned (.tuple #[.int k u', .bool b']) := by rw [h, h2]

set_option maxHeartbeats 1000000 in
theorem uint_n {w : World} {va : Value} {n lo hi : Nat} (ha : IsN w lo hi va n) :
    Calls Try.prog 34 #[va] w fun e w' => e = .returned (.tuple #[.int .u64 (u64v n), .bool (u64b n)]) ∧ w = w' := by
  obtain ⟨A, c, rfl, hc, hcm, hA⟩ := ha
  by_cases hlong : 3 < (lim n).length
  · have h1 := lim_len_lt.1 hlong
    have h2 : pw 3 = 1000000000000000000000000000 := by simp [pw]
    have H : Hid (¬ n < 18446744073709551616) := by unfold Hid; omega
    clear h1 h2
    go_enter Try.func34, Try.ntmps34
    go_wp2
    go_ret2
    exact ⟨ret_ub (u64_out H.out).1.symm (u64_out H.out).2.symm, rfl⟩
  · have hl3 : (lim n).length ≤ 3 := by omega
    go_enter Try.func34, Try.ntmps34
    go_wp2
    go_loop [4, 5] (fun q i => ∃ (k : Nat) (z : Int), k ≤ (lim n).length ∧ i = .int .i64 ((k : Int) - 1) ∧ q = .int .u64 z ∧ 0 ≤ z ∧ z ≤ 18446744073709551615 ∧ Hid (z = (n / pw k : Nat))) (fun _ i => (intOf i + 1).toNat)
    case atStart =>
      refine ⟨(lim n).length, 0, Nat.le_refl _, by go_num, rfl, by omega, by omega, ?_⟩
      rw [Hid, Nat.div_eq_of_lt (lim_lt n)]
      rfl
    case round =>
      obtain ⟨k, z, hk, rfl, rfl, hz0, hz1, hz⟩ := hrel
      rcases k with _ | k
      · have hz' := hz.out
        have : n / pw 0 = n := by simp [pw]
        rw [this] at hz'
        have Hn : Hid (z = (n : Int)) := hz'
        clear hz hz' this
        go_wp2
        go_ret2
        have hlt : n < 18446744073709551616 := by have := Hn.out; omega
        exact ⟨ret_ub (Hn.out.trans (u64_in hlt).1.symm) (u64_in hlt).2.symm, rfl⟩
      · obtain ⟨b, off, rfl, _, _, hca⟩ := hA (cel_ne (j := k) hk)
        obtain ⟨x, hx, hx0, hx1, hxc⟩ := cell_lo (j := k) (lo_lim n) hca (by omega)
        clear hca
        obtain ⟨H, L, hm, hH0, hH1, hL0, hL1, hcall⟩ := mul64_limb z hz0 hz1
        obtain ⟨S, C, hs, hS0, hS1, hC0, hC1, hadd⟩ := add64_at L x hL0 hL1 hx0 (by omega)
        have Hst := Lib.hid (uint_step hz.out hx.out hm.out hs.out)
        have hki : ((k + 1 : Nat) : Int) - 1 = (k : Int) := by omega
        rw [hki]
        rcases Int.lt_or_le 0 (H + C) with hp | hp
        · have Hn : Hid (¬ n < 18446744073709551616) := by
            unfold Hid
            have h1 := Hst.out
            have h2 : n / pw k ≤ n := Nat.div_le_self _ _
            omega
          go_wp2_with fail
          refine (hcall _).mono ?_
          rintro e w1 ⟨rfl, rfl⟩
          go_wp2_with fail
          go_ret2
          exact ⟨ret_ub (u64_out Hn.out).1.symm (u64_out Hn.out).2.symm, rfl⟩
        · have hsum : H + C = 0 := by omega
          have Hz : Hid (S = (n / pw k : Nat)) := by
            unfold Hid
            have h1 := Hst.out
            omega
          obtain rfl : H = 0 := by omega
          obtain rfl : C = 0 := by omega
          clear hp hsum
          go_wp2_with fail
          refine (hcall _).mono ?_
          rintro e w1 ⟨rfl, rfl⟩
          go_wp2_with fail
          go_round
          case rel => exact ⟨k, S, by omega, by go_num, rfl, hS0, hS1, Hz⟩
          case measure => simp [intOf]
end Go.Proofs.Ytbeocfiimminiaa
