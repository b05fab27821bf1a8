/-
  The contract of parlourkit's Mod: the remainder that is not negative.
-/
import Derived.Test.YtbeocfiimminiaaWords
import Derived.Test.YtbeocfiimminiaaChecked
import Derived.WalkKit
namespace Go.Proofs.Ytbeocfiimminiaa
open Go.RowKit
set_option linter.unusedVariables false

set_option maxHeartbeats 400000 in
theorem mod_n (w : World) (a n : Int) (h0 : -9223372036854775808 ≤ a) (h9 : a ≤ 9223372036854775807) (hn : 1 ≤ n) (hn1 : n ≤ 1000000000) :
    Calls Try.prog 30 #[.int .i64 a, .int .i64 n] w fun e w' => e = .returned (.int .i64 (a % n)) ∧ w = w' := by
  have e0 := Int.emod_nonneg a (show n ≠ 0 by omega)
  have e1 := Int.emod_lt_of_pos a (show 0 < n by omega)
  have ht : (a.tmod n = a % n ∧ (a < 0 → a % n = 0)) ∨ a.tmod n = a % n - n := by
    rw [Int.tmod_eq_emod]
    split
    · rename_i hd
      refine .inl ⟨by omega, fun hneg => ?_⟩
      rcases hd with hd | hd
      · omega
      · exact Int.emod_eq_zero_of_dvd hd
    · exact .inr (by omega)
  rcases Int.lt_or_le a 0 with h | h
  · have hne : (n == 0) = false := beq_eq_false_iff_ne.2 (by omega)
    rcases Int.lt_or_le (a.tmod n) 0 with h2 | h2
    · have hm : Hid (a.tmod n + n = a % n) := by unfold Hid; rcases ht with ⟨h3, h4⟩ | h3 <;> omega
      have hb : -1000000000 ≤ a.tmod n := by have := hm.out; omega
      clear ht
      go_enter Try.func30, Try.ntmps30
      go_wp2
      go_ret
      exact ⟨ret_int hm.out, rfl⟩
    · have hm : Hid (a.tmod n = a % n) := by unfold Hid; rcases ht with ⟨h3, h4⟩ | h3 <;> omega
      clear ht
      go_enter Try.func30, Try.ntmps30
      go_wp2
      go_ret
      exact ⟨ret_int hm.out, rfl⟩
  · clear ht
    go_enter Try.func30, Try.ntmps30
    go_wp2
    go_ret
    exact ⟨rfl, rfl⟩
end Go.Proofs.Ytbeocfiimminiaa
