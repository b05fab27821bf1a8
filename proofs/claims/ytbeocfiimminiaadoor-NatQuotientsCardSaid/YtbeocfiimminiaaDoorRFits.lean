/-
  The contract of the reference's Fits.
-/
import Derived.Test.YtbeocfiimminiaaDoorFit
namespace Go.Proofs.YtbeocfiimminiaaDoor
open Go.RowKit
set_option linter.unusedVariables false

set_option maxHeartbeats 1000000 in
theorem rfits_n {w : World} {va : Value} {x : Nat} {lo hi : Nat} (ha : IsN w lo hi va x) (hi1 : hi ≤ w.heap.size) :
    Calls Tryd.prog 41 #[va] w fun e w' => (∃ v, e = .returned (.tuple #[v, .int .i64 (fite x)]) ∧ IsN w' w.heap.size w'.heap.size v (fitv x)) ∧ Below w.heap.size w w' := by
  obtain ⟨A, c, rfl, _, _, hA⟩ := ha
  by_cases h : (lim x).length ≤ 1024
  · rw [fitv_le h, fite_le h]
    go_enter Tryd.func41, Tryd.ntmps41
    go_wp2_with (at_builtin; refine wp_appN elN rfl _ _ rfl rfl (own_empty w 34 34) rfl (cel_length _ _) (hA.alloc hi1 _) (cel_one _ _) (by simp only [List.length_nil]; omega) (by simp) ?_; intro v1 w1 hown hb hz)
    go_ret2
    exact ⟨⟨_, rfl, Own.isL (by simpa using hown)⟩, ((Below.refl _ w).alloc (Nat.le_refl _) _).trans hb⟩
  · rw [fitv_gt h, fite_gt h]
    go_enter Tryd.func41, Tryd.ntmps41
    go_wp2
    go_ret2
    exact ⟨⟨_, rfl, IsN.zero⟩, Below.refl _ _⟩
end Go.Proofs.YtbeocfiimminiaaDoor
