/-
  The contract of package nat's Cmp at any two lists.
-/
import Derived.Test.YtbeocfiimminiaaDoorFit
namespace Go.Proofs.YtbeocfiimminiaaDoor
open Go.RowKit
set_option linter.unusedVariables false

/-- What Cmp returns for lists. -/
def cmpv (a b : List Nat) : Int := if fst2 (chk a) (chk b) = 0 then sgn (val a) (val b) else 0
theorem ncmp_l {w : World} {va vb : Value} {a b : List Nat} {lo hi lo' hi' : Nat} (ha : IsL .u32 w lo hi va a) (hb : IsL .u32 w lo' hi' vb b) (hi1 : hi ≤ w.heap.size) (hi2 : hi' ≤ w.heap.size) :
    Calls Tryd.prog 17 #[va, vb] w fun e w' => e = .returned (.tuple #[.int .i64 (cmpv a b), .int .i64 (fst2 (chk a) (chk b))]) ∧ Below w.heap.size w w' := by
  by_cases h : fst2 (chk a) (chk b) = 0
  · obtain ⟨h1, h2⟩ := fst2_zero h
    have := ncmp_ok (ha.isN h1) (hb.isN h2) hi1 hi2 (chk_len h1) (chk_len h2)
    rw [cmpv, if_pos h, h]
    exact this
  · have := ncmp_bad ha hb hi1 hi2 h
    rw [cmpv, if_neg h]
    exact this
end Go.Proofs.YtbeocfiimminiaaDoor
