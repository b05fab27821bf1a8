/-
  Results of bounded operations; an empty slice written out; small words.
-/
import Derived.Test.YtbeocfiimminiaaDoorNatA
namespace Go.Proofs.YtbeocfiimminiaaDoor
open Go.RowKit
set_option linter.unusedVariables false

theorem fst2_zero {a b : Int} (h : fst2 a b = 0) : a = 0 ∧ b = 0 := by
  unfold fst2 at h
  split at h
  · omega
  · exact ⟨by omega, h⟩

/-- The result of a bounded operation: the number and the error. -/
def fitv (n : Nat) : Nat := if (lim n).length ≤ 1024 then n else 0
def fite (n : Nat) : Int := if (lim n).length ≤ 1024 then 0 else 5
theorem fitv_le {n : Nat} (h : (lim n).length ≤ 1024) : fitv n = n := by unfold fitv; rw [if_pos h]
theorem fite_le {n : Nat} (h : (lim n).length ≤ 1024) : fite n = 0 := by unfold fite; rw [if_pos h]
theorem fitv_gt {n : Nat} (h : ¬ (lim n).length ≤ 1024) : fitv n = 0 := by unfold fitv; rw [if_neg h]
theorem fite_gt {n : Nat} (h : ¬ (lim n).length ≤ 1024) : fite n = 5 := by unfold fite; rw [if_neg h]

/-- An empty slice written out. -/
theorem own_empty (w : World) (t e : TypeId) : Own (w.alloc (.cells #[] e)) w.heap.size e (.slice (some ⟨w.heap.size, 0, none⟩) 0 0) [] :=
  World.ownsRow_made w #[] 0 (Nat.le_refl _) (Nat.zero_le _) rfl

/-- What a bounded operation on two lists gives, and its error. -/
def op2 (a b : List Nat) (n : Nat) : Nat := if fst2 (chk a) (chk b) = 0 then fitv n else 0
def op2e (a b : List Nat) (n : Nat) : Int := if fst2 (chk a) (chk b) = 0 then fite n else fst2 (chk a) (chk b)
/-- The same of a difference. -/
def sub2 (a b : List Nat) : Nat := if fst2 (chk a) (chk b) = 0 then val a - val b else 0
def sub2e (a b : List Nat) : Int := if fst2 (chk a) (chk b) = 0 then (if val a < val b then 2 else 0) else fst2 (chk a) (chk b)

theorem ret_v {v : Value} {a b : Int} (h : a = b) : Ending.returned (.tuple #[v, .int .i64 a]) = .returned (.tuple #[v, .int .i64 b]) := by rw [h]
theorem below_trans' {w w1 w2 : World} (h : Below w.heap.size w w1) (hb : Below w1.heap.size w1 w2) : Below w.heap.size w w2 := h.trans (hb.mono h.size)
end Go.Proofs.YtbeocfiimminiaaDoor
