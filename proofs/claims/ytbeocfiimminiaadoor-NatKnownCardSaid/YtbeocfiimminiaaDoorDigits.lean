/-
  The contract of package nat's Digits.
-/
import Derived.Test.YtbeocfiimminiaaDoorNatA
import Derived.Test.YtbeocfiimminiaaDoorPlainT
namespace Go.Proofs.YtbeocfiimminiaaDoor
open Go.RowKit
set_option linter.unusedVariables false

/-- How many digits the text of a number has. -/
def ndg (n : Nat) : Nat := if n = 0 then 1 else ndig n
theorem txt_len (n : Nat) : (txt n).length = ndg n := by
  unfold ndg
  split
  · rename_i h; subst h; rfl
  · rename_i h; exact txt_length h
theorem ndig_div {n k : Nat} (h : n / tn k ≠ 0) : ndig n = k + ndig (n / tn k) := by
  induction k generalizing n with
  | zero => simp [tn]
  | succ k ih =>
    have e : n / tn (k + 1) = n / 10 / tn k := by rw [tn_succ, Nat.div_div_eq_div_mul]
    rw [e] at h ⊢
    have h0 : n ≠ 0 := by rintro rfl; simp at h
    rw [ndig_pos h0, ih h]
    omega
theorem ndig_lim {n m : Nat} (h : (lim n).length = m + 1) : ndig n = 9 * m + ndig ((lim n).getD m 0) ∧ (lim n).getD m 0 ≠ 0 := by
  have h1 : n < pw (m + 1) := lim_len_le.1 (by omega)
  have h2 : pw m ≤ n := lim_len_lt.1 (by omega)
  have h3 : n / pw m < 1000000000 := Nat.div_lt_of_lt_mul (by rw [pw_succ] at h1; rw [Nat.mul_comm]; exact h1)
  have h4 : 0 < n / pw m := Nat.div_pos h2 (pw_pos m)
  rw [lim_getD, Nat.mod_eq_of_lt h3]
  refine ⟨?_, by omega⟩
  rw [← tn_nine]
  exact ndig_div (by rw [tn_nine]; omega)

set_option maxHeartbeats 400000 in
theorem ndigits_bad {w : World} {va : Value} {l : List Nat} {lo hi : Nat} (ha : IsL .u32 w lo hi va l) (he : chk l ≠ 0) :
    Calls Tryd.prog 16 #[va] w fun e w' => e = .returned (.tuple #[.int .i64 0, .int .i64 (chk l)]) ∧ w = w' := by
  have Ha := Lib.hid ha
  obtain ⟨A, c, rfl, _, _, _⟩ := ha
  have hne : (chk l != 0) = true := bne_iff_ne.2 he
  clear he
  go_enter Tryd.func16, Tryd.ntmps16
  go_wp2_with fail
  refine (check_l Ha.out).mono ?_
  rintro e w1 ⟨rfl, rfl⟩
  go_wp2_with fail
  go_ret2
  exact ⟨rfl, rfl⟩

set_option maxHeartbeats 1000000 in
theorem ndigits_ok {w : World} {va : Value} {n : Nat} {lo hi : Nat} (ha : IsN w lo hi va n) (hn : (lim n).length ≤ 1024) :
    Calls Tryd.prog 16 #[va] w fun e w' => e = .returned (.tuple #[.int .i64 (ndg n : Nat), .int .i64 0]) ∧ w = w' := by
  have Ha := Lib.hid ha
  have Hc := Lib.hid (chk_lim hn)
  obtain ⟨A, c, rfl, _, _, hA⟩ := ha
  rcases Nat.eq_zero_or_pos n with h0 | h0
  · subst h0
    have hl0 : (lim 0).length = 0 := by rw [lim_zero]; rfl
    rw [hl0] at Ha ⊢
    clear hl0
    have Ht : Hid (ndg 0 = 1) := rfl
    go_enter Tryd.func16, Tryd.ntmps16
    go_wp2_with fail
    refine (check_l Ha.out).mono ?_
    rw [Hc.out]
    rintro e w1 ⟨rfl, rfl⟩
    go_wp2_with fail
    go_ret2
    rw [Ht.out]
    exact ⟨rfl, rfl⟩
  · obtain ⟨m, hm⟩ : ∃ m, (lim n).length = m + 1 := ⟨(lim n).length - 1, by have := lim_nil_iff (n := n); omega⟩
    have Hd := Lib.hid (ndig_lim hm)
    have Hg : Hid (ndg n = ndig n) := by unfold Hid ndg; rw [if_neg (by omega)]
    have Hm := Lib.hid hm
    rw [hm] at hn Ha ⊢
    obtain ⟨b, off, rfl, _, _, hca⟩ := hA (cel_ne (j := m) (by omega))
    obtain ⟨x, hx, hx0, hxc⟩ := cell_at (j := m) hca (by omega)
    have hx1 : x ≤ 999999999 := by have := hx.out; have := lo_getD (lo_lim n) m; omega
    obtain ⟨y, rfl⟩ := Int.eq_ofNat_of_zero_le hx0
    obtain ⟨z, hz⟩ : ∃ z : Int, Hid (z = (y : Int)) := ⟨_, rfl⟩
    rw [← hz.out] at hxc hx0 hx1
    clear hca hm
    go_enter Tryd.func16, Tryd.ntmps16
    go_wp2_with fail
    refine (check_l Ha.out).mono ?_
    rw [Hc.out]
    rintro e w1 ⟨rfl, rfl⟩
    go_wp2
    go_loop [5, 6] (fun cv xv => ∃ (q p : Nat), cv = .int .i64 (q : Int) ∧ xv = .int .u32 (p : Int) ∧ p ≤ 999999999 ∧ q ≤ 9300 + (999999999 - p) ∧ Hid (q + ndig p = ndig n)) (fun _ xv => (intOf xv).toNat)
    case atStart =>
      refine ⟨9 * m, z.toNat, by go_num, by go_num, by omega, by omega, ?_⟩
      have h1 := Hd.out.1
      have h2 := hz.out
      have h3 := hx.out
      rw [show z.toNat = (lim n).getD m 0 by omega]
      exact h1.symm
    case round =>
      obtain ⟨q, p, rfl, rfl, hp, hq, hrel⟩ := hrel
      by_cases hp0 : p = 0
      · subst hp0
        have hr := hrel.out
        rw [ndig_zero, Nat.add_zero] at hr
        have Hr := Lib.hid hr
        clear hr hrel
        go_wp2
        go_ret2
        rw [Hg.out, ← Hr.out]
        exact ⟨rfl, rfl⟩
      · have hpp : 0 < p := by omega
        have hr := hrel.out
        rw [ndig_pos hp0] at hr
        have Hr := Lib.hid hr
        clear hr hrel hp0
        go_wp2
        go_round
        case rel =>
          refine ⟨q + 1, p / 10, by go_num, by go_num, by omega, by omega, ?_⟩
          have := Hr.out
          unfold Hid
          omega
        case measure => simp [intOf]; omega
end Go.Proofs.YtbeocfiimminiaaDoor
