/-
  The contracts of package nat's Int and the reference's Int, Of, both, Cmp, Digits.
-/
import Derived.Test.YtbeocfiimminiaaUint
import Derived.Test.YtbeocfiimminiaaRefO
import Derived.Test.YtbeocfiimminiaaTextB
import Derived.Test.YtbeocfiimminiaaDigits
namespace Go.Proofs.Ytbeocfiimminiaa
open Go.RowKit
set_option linter.unusedVariables false

/-- What Int returns. -/
def intv (n : Nat) : Int := if n ≤ 9223372036854775807 then (n : Int) else 0
def inte (n : Nat) : Int := if n ≤ 9223372036854775807 then 0 else 5
theorem int_in {n : Nat} (h : n ≤ 9223372036854775807) : intv n = n ∧ inte n = 0 := by simp [intv, inte, h]
theorem int_out {n : Nat} (h : ¬ n ≤ 9223372036854775807) : intv n = 0 ∧ inte n = 5 := by simp only [intv, inte, h, if_false, and_self]
theorem ret_ii {k k' : IntKind} {u u' b b' : Int} (h : u = u') (h2 : b = b') : Ending.returned (.tuple #[.int k u, .int k' b]) = .returned (.tuple #[.int k u', .int k' b']) := by rw [h, h2]

set_option maxHeartbeats 400000 in
theorem nint_bad {w : World} {va : Value} {l : List Nat} {lo hi : Nat} (ha : IsL .u32 w lo hi va l) (he : chk l ≠ 0) :
    Calls Try.prog 13 #[va] w fun e w' => e = .returned (.tuple #[.int .i64 0, .int .i64 (chk l)]) ∧ w = w' := by
  have Ha := Lib.hid ha
  obtain ⟨A, c, rfl, _, _, _⟩ := ha
  have hne : (chk l != 0) = true := bne_iff_ne.2 he
  clear he
  go_enter Try.func13, Try.ntmps13
  go_wp2_with fail
  refine (check_l Ha.out).mono ?_
  rintro e w1 ⟨rfl, rfl⟩
  go_wp2_with fail
  go_ret2
  exact ⟨rfl, rfl⟩
set_option maxHeartbeats 400000 in
theorem nint_ok {w : World} {va : Value} {n : Nat} {lo hi : Nat} (ha : IsN w lo hi va n) (hn : (lim n).length ≤ 1024) :
    Calls Try.prog 13 #[va] w fun e w' => e = .returned (.tuple #[.int .i64 (intv n), .int .i64 (inte n)]) ∧ w = w' := by
  have Ha := Lib.hid ha
  have Hc := Lib.hid (chk_lim hn)
  clear hn
  obtain ⟨A, c, rfl, _, _, _⟩ := ha
  by_cases h1 : n < 18446744073709551616
  · have Hu := Lib.hid (u64_in h1)
    obtain ⟨z, hz, hz0, hz1⟩ : ∃ z : Int, Hid (z = (n : Int)) ∧ 0 ≤ z ∧ z ≤ 18446744073709551615 := ⟨_, rfl, by omega, by omega⟩
    clear h1
    rcases Int.lt_or_le 9223372036854775807 z with hp | hp
    · have Hi := Lib.hid (int_out (n := n) (by have := hz.out; omega))
      go_enter Try.func13, Try.ntmps13
      go_wp2_with fail
      refine (check_l Ha.out).mono ?_
      rw [Hc.out]
      rintro e w1 ⟨rfl, rfl⟩
      go_wp2_with fail
      refine (uint_n Ha.out).mono ?_
      rw [Hu.out.1, Hu.out.2, ← hz.out]
      rintro e w1 ⟨rfl, rfl⟩
      go_wp2_with fail
      go_ret2
      exact ⟨ret_ii Hi.out.1.symm Hi.out.2.symm, rfl⟩
    · have Hi := Lib.hid (int_in (n := n) (by have := hz.out; omega))
      go_enter Try.func13, Try.ntmps13
      go_wp2_with fail
      refine (check_l Ha.out).mono ?_
      rw [Hc.out]
      rintro e w1 ⟨rfl, rfl⟩
      go_wp2_with fail
      refine (uint_n Ha.out).mono ?_
      rw [Hu.out.1, Hu.out.2, ← hz.out]
      rintro e w1 ⟨rfl, rfl⟩
      go_wp2_with fail
      go_ret2
      exact ⟨ret_ii (hz.out.trans Hi.out.1.symm) Hi.out.2.symm, rfl⟩
  · have Hu := Lib.hid (u64_out h1)
    have Hi := Lib.hid (int_out (n := n) (by omega))
    clear h1
    go_enter Try.func13, Try.ntmps13
    go_wp2_with fail
    refine (check_l Ha.out).mono ?_
    rw [Hc.out]
    rintro e w1 ⟨rfl, rfl⟩
    go_wp2_with fail
    refine (uint_n Ha.out).mono ?_
    rw [Hu.out.1, Hu.out.2]
    rintro e w1 ⟨rfl, rfl⟩
    go_wp2_with fail
    go_ret2
    exact ⟨ret_ii Hi.out.1.symm Hi.out.2.symm, rfl⟩

set_option maxHeartbeats 400000 in
theorem rint_bad {w : World} {va : Value} {l : List Nat} {lo hi : Nat} (ha : IsL .u32 w lo hi va l) (he : chk l ≠ 0) :
    Calls Try.prog 14 #[va] w fun e w' => e = .returned (.tuple #[.int .i64 0, .int .i64 (chk l)]) ∧ Below w.heap.size w w' := by
  have Ha := Lib.hid ha
  obtain ⟨A, c, rfl, _, _, _⟩ := ha
  have hne : (chk l != 0) = true := bne_iff_ne.2 he
  clear he
  go_enter Try.func14, Try.ntmps14
  go_wp2_with fail
  refine (rcheck_l Ha.out).mono ?_
  rintro e w1 ⟨rfl, rfl⟩
  go_wp2_with fail
  go_ret2
  exact ⟨rfl, Below.refl _ _⟩
theorem lit_max : lim 9223372036854775807 = [854775807, 223372036, 9] := lim_val_of (l := [854775807, 223372036, 9]) (by intro x hx; simp at hx; omega) (by decide)
set_option maxHeartbeats 1000000 in
theorem rint_ok {w : World} {va : Value} {n : Nat} {lo hi : Nat} (ha : IsN w lo hi va n) (hi1 : hi ≤ w.heap.size) (hn : (lim n).length ≤ 1024) :
    Calls Try.prog 14 #[va] w fun e w' => e = .returned (.tuple #[.int .i64 (intv n), .int .i64 (inte n)]) ∧ Below w.heap.size w w' := by
  have Ha := Lib.hid ha
  have Hc := Lib.hid (chk_lim hn)
  obtain ⟨A, c, rfl, _, _, hA⟩ := ha
  have HA := Lib.hid hA
  clear hA
  have hlit := lit_n w 30 lit_max #[.int .u32 854775807, .int .u32 223372036, .int .u32 9] 3 (by simp [cel]) rfl (by simp [maxLen])
  have Hlit := Lib.hid hlit
  clear hlit
  by_cases h1 : n ≤ 9223372036854775807
  · have Hi := Lib.hid (int_in h1)
    have Hs : Hid (sgn n 9223372036854775807 ≤ 0) := by
      unfold Hid sgn
      split
      · omega
      · split
        · omega
        · omega
    obtain ⟨sg, hsg, hsg0⟩ : ∃ sg : Int, Hid (sgn n 9223372036854775807 = sg) ∧ sg ≤ 0 := ⟨_, rfl, Hs.out⟩
    go_enter Try.func14, Try.ntmps14
    go_wp2_with fail
    refine (rcheck_l Ha.out).mono ?_
    rw [Hc.out]
    rintro e w1 ⟨rfl, rfl⟩
    go_wp2_with fail
    refine (rorder_n (Ha.out.alloc hi1 _) Hlit.out).mono ?_
    rw [hsg.out]
    rintro e w1 ⟨rfl, hdr⟩
    have HA1 := Lib.hid ((HA.out.alloc hi1 (.cells #[.int .u32 854775807, .int .u32 223372036, .int .u32 9] 30)).below (hdr.below hi) (Nat.le_refl _))
    have Hb := Lib.hid (below_stepD (below_stepA (Below.refl _ w) (.cells #[.int .u32 854775807, .int .u32 223372036, .int .u32 9] 30)) hdr)
    clear hdr HA
    go_wp2
    go_loop [5, 6] (fun q i => ∃ (k : Nat) (z : Int), k ≤ (lim n).length ∧ i = .int .i64 ((k : Int) - 1) ∧ q = .int .i64 z ∧ 0 ≤ z ∧ z ≤ 9223372036854775807 ∧ Hid (z = (n / pw k : Nat))) (fun _ i => (intOf i + 1).toNat)
    case atStart =>
      refine ⟨(lim n).length, 0, Nat.le_refl _, by go_num, rfl, by omega, by omega, ?_⟩
      rw [Hid, Nat.div_eq_of_lt (lim_lt n)]
      rfl
    case round =>
      obtain ⟨k, z, hk, rfl, rfl, hz0, hz1, hz⟩ := hrel
      rcases k with _ | k
      · have hz' := hz.out
        have : n / pw 0 = n := by simp [pw]
        rw [this] at hz'
        have Hn : Hid (z = (n : Int)) := hz'
        clear hz hz' this
        go_wp2
        go_ret2
        exact ⟨ret_ii (Hn.out.trans Hi.out.1.symm) Hi.out.2.symm, Hb.out⟩
      · obtain ⟨b, off, rfl, _, _, hca⟩ := HA1.out (cel_ne (j := k) hk)
        obtain ⟨x, hx, hx0, hx1, hxc⟩ := cell_lo (j := k) (lo_lim n) hca (by omega)
        clear hca
        have Hst : Hid (z * 1000000000 + x = (n / pw k : Nat)) := by
          have e1 := hz.out
          have e2 := hx.out
          have e : n / pw (k + 1) = n / pw k / 1000000000 := by rw [pw_succ, Nat.mul_comm, Nat.div_div_eq_div_mul]
          rw [lim_getD] at e2
          rw [e] at e1
          unfold Hid
          omega
        have hst0 : z * 1000000000 + x ≤ 9223372036854775807 := by
          have h3 := Hst.out
          have h2 : n / pw k ≤ n := Nat.div_le_self _ _
          omega
        have hki : ((k + 1 : Nat) : Int) - 1 = (k : Int) := by omega
        rw [hki]
        clear hki
        go_wp2
        go_round
        case rel => exact ⟨k, z * 1000000000 + x, by omega, by go_num, by go_num, by omega, hst0, Hst⟩
        case measure => simp [intOf]
  · have Hi := Lib.hid (int_out h1)
    have Hs := Lib.hid (sgn_gt (x := n) (y := 9223372036854775807) (by omega))
    clear h1
    go_enter Try.func14, Try.ntmps14
    go_wp2_with fail
    refine (rcheck_l Ha.out).mono ?_
    rw [Hc.out]
    rintro e w1 ⟨rfl, rfl⟩
    go_wp2_with fail
    refine (rorder_n (Ha.out.alloc hi1 _) Hlit.out).mono ?_
    rw [Hs.out]
    rintro e w1 ⟨rfl, hdr⟩
    have Hb := Lib.hid (below_stepD (below_stepA (Below.refl _ w) (.cells #[.int .u32 854775807, .int .u32 223372036, .int .u32 9] 30)) hdr)
    clear hdr
    go_wp2_with fail
    go_ret2
    exact ⟨ret_ii Hi.out.1.symm Hi.out.2.symm, Hb.out⟩

theorem rof_neg (w : World) (n : Int) (h : n < 0) :
    Calls Try.prog 9 #[.int .i64 n] w fun e w' => e = .returned (.tuple #[.slice none 0 0, .int .i64 2]) ∧ w = w' := by
  go_enter Try.func9, Try.ntmps9
  go_wp2
  go_ret2
  exact ⟨rfl, rfl⟩
set_option maxHeartbeats 400000 in
theorem rof_pos (w : World) (n : Int) (h : 0 ≤ n) (h9 : n ≤ 9223372036854775807) :
    Calls Try.prog 9 #[.int .i64 n] w fun e w' => (∃ v, e = .returned (.tuple #[v, .int .i64 0]) ∧ IsN w' w.heap.size w'.heap.size v n.toNat) ∧ Below w.heap.size w w' := by
  obtain ⟨n, rfl⟩ := Int.eq_ofNat_of_zero_le h
  rw [Int.toNat_natCast]
  generalize hB : w.heap.size = B
  have HB := Lib.hid hB; clear hB
  go_enter Try.func9, Try.ntmps9
  go_wp2
  go_loopw [0, 4] (fun x v wr => ∃ m : Nat, ∃ l : List Nat, x = .int .i64 (m : Int) ∧ m ≤ n ∧ Own wr B 30 v (cel .u32 l) ∧ Below B w wr ∧ l.length + (lim m).length ≤ 5 ∧ Hid (l ++ lim m = lim n)) (fun x _ _ => (intOf x).toNat)
  case atStart =>
    refine ⟨n, [], rfl, Nat.le_refl _, Own.nil _ _ _, Below.refl _ _, ?_, rfl⟩
    rw [List.length_nil, Nat.zero_add, lim_len_le]
    simp [pw]
    omega
  case round =>
    obtain ⟨m, l, rfl, hm, hown, hb, hlen, hl⟩ := hrel
    have hBw : B ≤ wr.heap.size := by have := hb.size; have := HB.out; omega
    by_cases h0 : m = 0
    · subst h0
      go_wp2
      go_ret2
      have := hl.out
      rw [lim_zero, List.append_nil] at this
      subst this
      exact ⟨⟨_, rfl, Own.isL hown⟩, hb⟩
    · have hmp : 0 < m := by omega
      go_wp2_with (at_builtin; refine wp_app1 elN rfl _ _ rfl rfl hown rfl rfl (by rw [cel_length]; omega) hBw ?_; intro v1 w1 hown1 hb1 hz1)
      go_roundw
      case rel =>
        rw [cel_snoc .u32 l (m % 1000000000) _ (by omega)] at hown1
        have h1 := lim_pos h0
        refine ⟨m / 1000000000, l ++ [m % 1000000000], by go_num, by omega, hown1, hb.trans hb1, ?_, ?_⟩
        · rw [h1] at hlen; simp only [List.length_append, List.length_cons, List.length_nil] at hlen ⊢; omega
        · have := hl.out
          rw [h1] at this
          rw [← this, List.append_assoc]
          rfl
      case measure => simp [intOf]; omega
end Go.Proofs.Ytbeocfiimminiaa
