/-
  The contract of package long's IsOne.
-/
import Derived.Test.YtbeocfiimminiaaDoorLongA
namespace Go.Proofs.YtbeocfiimminiaaDoor
open Go.RowKit
set_option linter.unusedVariables false

set_option maxHeartbeats 400000 in
theorem isOne_n {w : World} {va : Value} {x lo hi : Nat} (ha : IsN w lo hi va x) :
    Calls Tryd.prog 62 #[va] w fun e w' => e = .returned (.bool (decide (x = 1))) ∧ w = w' := by
  obtain ⟨A, c, rfl, hc, _, hA⟩ := ha
  generalize hl : lim x = l at *
  have Hl := Lib.hid hl; clear hl
  by_cases h1 : l.length = 1
  · obtain ⟨ba, oa, rfl, _, _, hca⟩ := hA (cel_ne (j := 0) (by omega))
    obtain ⟨y, hy, hy0, hyc⟩ := cell_at (j := 0) hca (by omega)
    clear hca
    obtain ⟨z, rfl⟩ : ∃ z, l = [z] := by
      match l, h1 with
      | [z], _ => exact ⟨z, rfl⟩
    simp only [List.getD_cons_zero] at hy
    rw [Nat.add_zero] at hyc
    by_cases h2 : y = 1
    · have Hx : Hid (decide (x = 1) = true) := by
        have := hy.out
        obtain rfl : z = 1 := by omega
        have hv := val_lim x
        rw [Hl.out] at hv
        simp [val] at hv
        simp [Hid, hv]
      subst h2
      clear h1
      go_enter Tryd.func62, Tryd.ntmps62
      go_wp2
      go_ret
      exact ⟨ret_bool Hx.out.symm, rfl⟩
    · have Hx : Hid (decide (x = 1) = false) := by
        have := hy.out
        have hv := val_lim x
        rw [Hl.out] at hv
        simp [val] at hv
        simp [Hid]
        omega
      have hb : (y == 1) = false := by simpa using h2
      clear h1
      go_enter Tryd.func62, Tryd.ntmps62
      go_wp2
      go_ret
      exact ⟨ret_bool Hx.out.symm, rfl⟩
  · have hb : ((l.length : Int) == 1) = false := by simp; omega
    have Hx : Hid (decide (x = 1) = false) := by
      simp only [Hid, decide_eq_false_iff_not]
      rintro rfl
      have h := Hl.out
      rw [lim_one] at h
      subst h
      simp at h1
    go_enter Tryd.func62, Tryd.ntmps62
    go_wp2
    go_ret
    exact ⟨ret_bool Hx.out.symm, rfl⟩
end Go.Proofs.YtbeocfiimminiaaDoor
