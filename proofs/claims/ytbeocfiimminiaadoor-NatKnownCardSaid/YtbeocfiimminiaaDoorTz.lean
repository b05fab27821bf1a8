/-
  The contract of the library's TrailingZeros64 (the walk follows the kit's worked proof of it).
-/
import Derived.Test.YtbeocfiimminiaaDoorWords
import Derived.Test.YtbeocfiimminiaaDoorChecked
import Derived.WalkKit
import Derived.Lib.TrailingZeros
import Derived.Laws.Bits64b
namespace Go.Proofs.YtbeocfiimminiaaDoor
open Go.RowKit
set_option linter.unusedVariables false

/-- The table of the library lies in its variable. -/
def bruT : List Nat := Lib.deBruijn64tab
def Bru (w : World) : Prop := 1 < w.heap.size ∧ ∀ i, i < 64 → w.cell? ⟨1, i, none⟩ = some (.int .u8 (bruT.getD i 0 : Nat))
theorem Bru.below {w w' : World} (h : Bru w) (hb : Below w.heap.size w w') : Bru w' :=
  ⟨Nat.lt_of_lt_of_le h.1 hb.size, fun i hi => (hb.cell (p := ⟨1, i, none⟩) h.1).trans (h.2 i hi)⟩
theorem Bru.alloc {w : World} (h : Bru w) (o : Obj) : Bru (w.alloc o) := h.below ((Below.refl _ _).alloc (Nat.le_refl _) o)
theorem Bru.drewN {w : World} (h : Bru w) (n : Nat) : Bru (w.drewN n) := h

theorem tz_key (x a : Nat) (hx : x < 18446744073709551616) (hx0 : x ≠ 0) (hlow : x &&& (18446744073709551616 - x) = a) :
    IntKind.u64.wrap (bits BinOp.and IntKind.u64 (x : Int) (IntKind.u64.wrap (-(x : Int))) * 285870213051353865) / 288230376151711744 = ((a * 285870213051353865 % 18446744073709551616 / 288230376151711744 : Nat) : Int) := by
  have e1 : IntKind.u64.wrap (-(x : Int)) = ((18446744073709551616 - x : Nat) : Int) := by rw [IntKind.wrap_u64]; omega
  rw [e1, bits_and_u64_nat x _ hx (by omega), hlow, IntKind.wrap_u64]
  omega

set_option maxHeartbeats 1000000 in
theorem tz_core (x k idx : Nat) (w : World) (hx0 : ((x : Int) == 0) = false)
    (key : IntKind.u64.wrap (bits BinOp.and IntKind.u64 (x : Int) (IntKind.u64.wrap (-(x : Int))) * 285870213051353865) / 288230376151711744 = (idx : Int))
    (hi : idx < 64) (hk : k < 64) (hcell : w.cell? ⟨1, idx, none⟩ = some (.int .u8 k)) :
    Calls Tryd.prog 68 #[.int .u64 x] w fun e w' => e = .returned (.int .i64 k) ∧ w = w' := by
  go_enter Tryd.func68, Tryd.ntmps68
  go_wp2_with (simp only [key])
  go_ret
  exact ⟨rfl, rfl⟩

/-- TrailingZeros64 of a word that is not 0. -/
theorem tz_n (x : Nat) (w : World) (hB : Bru w) (hx0 : x ≠ 0) (hx : x < 18446744073709551616) :
    ∃ k m : Nat, k < 64 ∧ x = 2 ^ k * (2 * m + 1) ∧ Calls Tryd.prog 68 #[.int .u64 (x : Int)] w fun e w' => e = .returned (.int .i64 (k : Int)) ∧ w = w' := by
  obtain ⟨hlow, hk⟩ := Lib.lowest_bit 64 x hx0 hx
  obtain ⟨hi, htab⟩ := Lib.deBruijn64_at _ hk
  have hcell := hB.2 _ hi
  unfold bruT at hcell
  rw [htab] at hcell
  obtain ⟨m, hm, _⟩ := Lib.ctzFrom_spec 64 x (by omega) hx
  refine ⟨Lib.ctz 64 x, m, hk, ?_, tz_core x _ _ w (by simp; omega) (tz_key x _ hx hx0 hlow) hi hk hcell⟩
  unfold Lib.ctz
  rw [if_neg hx0]
  exact hm
end Go.Proofs.YtbeocfiimminiaaDoor
