/-
  The contract of package long's steps: Lehmer's factors.
-/
import Derived.Test.YtbeocfiimminiaaDoorPlainL
import Derived.Test.YtbeocfiimminiaaDoorWords
import Derived.Test.YtbeocfiimminiaaDoorChecked
import Derived.WalkKit
namespace Go.Proofs.YtbeocfiimminiaaDoor
open Go.RowKit
set_option linter.unusedVariables false

/-- The greatest of four ints. -/
theorem max4 (P : Program) (w : World) (k : IntKind) (ts : Array TypeId) (t : TypeId) (x y z u : Int) : ∃ M, (Builtin.max_ ts t #[.int k x, .int k y, .int k z, .int k u]).run P w = .ok (.int k M) w ∧ x ≤ M ∧ y ≤ M ∧ z ≤ M ∧ u ≤ M ∧ (M = x ∨ M = y ∨ M = z ∨ M = u) := by
  refine ⟨_, by simp [Builtin.max_, Builtin.max2]; rfl, ?_⟩
  by_cases h1 : x < y <;> by_cases h2 : (if x < y then y else x) < z <;> by_cases h3 : (if (if x < y then y else x) < z then z else (if x < y then y else x)) < u <;> simp [h1] at h2 h3 ⊢ <;> simp_all <;> omega

/-- What the steps return. -/
def StepsR (A0 B0 : Nat) (a0 b0 : Int) (e : Ending) : Prop := ∃ w x y z a b : Int, e = .returned (.tuple #[.int .i64 w, .int .i64 x, .int .i64 y, .int .i64 z]) ∧ LI A0 B0 a0 b0 a b w x y z ∧
  (-999999999 ≤ w ∧ w ≤ 999999999 ∧ -999999999 ≤ x ∧ x ≤ 999999999) ∧ (-999999999 ≤ y ∧ y ≤ 999999999 ∧ -999999999 ≤ z ∧ z ≤ 999999999)

set_option maxRecDepth 100000 in
set_option maxHeartbeats 2000000 in
theorem steps_n (W : World) (A0 B0 S : Nat) (a0 b0 : Int) (hS : 0 < S) (hA : a0 = (A0 / S : Nat)) (hB : b0 = (B0 / S : Nat)) (hle : B0 ≤ A0) (ha9 : a0 ≤ 999999999999999999) (hb9 : b0 ≤ 999999999999999999) :
    Calls Tryd.prog 63 #[.int .i64 a0, .int .i64 b0] W fun e w' => StepsR A0 B0 a0 b0 e ∧ W = w' := by
  have ha0 : 0 ≤ a0 := by rw [hA]; exact Int.natCast_nonneg _
  have hb0 : 0 ≤ b0 := by rw [hB]; exact Int.natCast_nonneg _
  have HA := Lib.hid hA
  have HB := Lib.hid hB
  clear hA hB
  go_enter Tryd.func63, Tryd.ntmps63
  go_wp2
  go_loop [0, 1, 4, 5, 6, 7] (fun sa sb sw sx sy sz => ∃ a b w x y z : Int, sa = .int .i64 a ∧ sb = .int .i64 b ∧ sw = .int .i64 w ∧ sx = .int .i64 x ∧ sy = .int .i64 y ∧ sz = .int .i64 z ∧
      (-999999999 ≤ w ∧ w ≤ 999999999 ∧ -999999999 ≤ x ∧ x ≤ 999999999) ∧ (-999999999 ≤ y ∧ y ≤ 999999999 ∧ -999999999 ≤ z ∧ z ≤ 999999999) ∧ Hid (LI A0 B0 a0 b0 a b w x y z)) (fun _ sb _ _ sy _ => (intOf sb + intOf sy).toNat)
  case atStart => exact ⟨a0, b0, 1, 0, 0, 1, rfl, rfl, rfl, rfl, rfl, rfl, by omega, by omega, LI.start ha0 hb0 hle⟩
  case round =>
    obtain ⟨a, b, w, x, y, z, rfl, rfl, rfl, rfl, rfl, rfl, ⟨hw0, hw1, hx0, hx1⟩, ⟨hy0, hy1, hz0, hz1⟩, hrel⟩ := hrel
    obtain ⟨hab0, hab1, hab2, hab3⟩ := hrel.out.bounds ha9 hb9
    have haw := hrel.out.aw
    have hax := hrel.out.ax
    have hby := hrel.out.by_
    have hbz := hrel.out.bz
    have hfin : Hid (StepsR A0 B0 a0 b0 (.returned (.tuple #[.int .i64 w, .int .i64 x, .int .i64 y, .int .i64 z]))) := ⟨w, x, y, z, a, b, rfl, hrel.out, ⟨hw0, hw1, hx0, hx1⟩, ⟨hy0, hy1, hz0, hz1⟩⟩
    rcases Int.lt_or_le 0 (b + y) with hpy | hpy
    · rcases Int.lt_or_le 0 (b + z) with hpz | hpz
      · have hb1 : (b + y != 0) = true := by rw [bne_iff_ne]; omega
        have hb2 : (b + z != 0) = true := by rw [bne_iff_ne]; omega
        by_cases hq : (a + w) / (b + y) = (a + x) / (b + z)
        · have hq0 : 0 ≤ (a + w) / (b + y) := Int.ediv_nonneg haw (by omega)
          have hq1 : (a + w) / (b + y) ≤ a + w := Int.ediv_le_self _ haw
          have hq2 : (a + x) / (b + z) ≤ a + x := Int.ediv_le_self _ hax
          have hq3 : (a + w) / (b + y) * (b + y) ≤ a + w := Int.ediv_mul_le _ (by omega)
          have hst := Lib.hid (hrel.out.step hS HA.out HB.out hpy hpz rfl hq)
          have hbq : ((a + w) / (b + y) != (a + x) / (b + z)) = false := by simp [hq]
          rw [← hq] at hq2
          have Hq := Lib.hid hq
          clear hq
          obtain ⟨f1, f2, f3, f4, f5, f6⟩ := hrel.out.fits ha9 hb9 ⟨hw0, hw1⟩ ⟨hx0, hx1⟩ ⟨hy0, hy1⟩ ⟨hz0, hz1⟩ hq0 hq1 hq2 hq3
          clear hq3
          by_cases hs : -999999999 ≤ w - (a + w) / (b + y) * y ∧ w - (a + w) / (b + y) * y ≤ 999999999 ∧ -999999999 ≤ x - (a + w) / (b + y) * z ∧ x - (a + w) / (b + y) * z ≤ 999999999
          · obtain ⟨s1, s2, s3, s4⟩ := hs
            obtain ⟨M, hM, m1, m2, m3, m4, m5⟩ := max4 Tryd.prog W .i64 #[2, 2, 2, 2] 2 (w - (a + w) / (b + y) * y) (-(w - (a + w) / (b + y) * y)) (x - (a + w) / (b + y) * z) (-(x - (a + w) / (b + y) * z))
            have hM9 : M ≤ 999999999 := by rcases m5 with h | h | h | h <;> omega
            clear m1 m2 m3 m4 m5
            go_wp2
            go_round
            case rel => exact ⟨_, _, _, _, _, _, rfl, rfl, rfl, rfl, rfl, rfl, ⟨hy0, hy1, hz0, hz1⟩, ⟨s1, s2, s3, s4⟩, hst.out⟩
            case measure =>
              have hme : (a + w) % (b + y) < b + y := Int.emod_lt_of_pos _ hpy
              have hmz : (a + w) % (b + y) = a - (a + w) / (b + y) * b + (w - (a + w) / (b + y) * y) := by
                have := Int.emod_def (a + w) (b + y)
                rw [this]
                grind
              have hm0 : 0 ≤ (a + w) % (b + y) := Int.emod_nonneg _ (by omega)
              simp [intOf]
              omega
          · obtain ⟨M, hM, m1, m2, m3, m4, m5⟩ := max4 Tryd.prog W .i64 #[2, 2, 2, 2] 2 (w - (a + w) / (b + y) * y) (-(w - (a + w) / (b + y) * y)) (x - (a + w) / (b + y) * z) (-(x - (a + w) / (b + y) * z))
            have hM9 : 1000000000 ≤ M := by omega
            clear m1 m2 m3 m4 m5 hs
            go_wp2
            exact bodyPost_ret (v := .tuple #[.int .i64 w, .int .i64 x, .int .i64 y, .int .i64 z]) (by simp [results, Tryd.results63, go_sem]) rfl ⟨hfin.out, rfl⟩
        · have hbq : ((a + w) / (b + y) != (a + x) / (b + z)) = true := by simpa using hq
          have hq0 : 0 ≤ (a + w) / (b + y) := Int.ediv_nonneg haw (by omega)
          have hq1 : (a + w) / (b + y) ≤ a + w := Int.ediv_le_self _ haw
          have hq4 : 0 ≤ (a + x) / (b + z) := Int.ediv_nonneg hax (by omega)
          have hq2 : (a + x) / (b + z) ≤ a + x := Int.ediv_le_self _ hax
          clear hq
          go_wp2
          exact bodyPost_ret (v := .tuple #[.int .i64 w, .int .i64 x, .int .i64 y, .int .i64 z]) (by simp [results, Tryd.results63, go_sem]) rfl ⟨hfin.out, rfl⟩
      · have hz' : b + z = 0 := by omega
        have hb1 : (b + y != 0) = true := by rw [bne_iff_ne]; omega
        have hb2 : (b + z != 0) = false := by rw [bne_eq_false_iff_eq]; exact hz'
        clear hz'
        go_wp2
        exact bodyPost_ret (v := .tuple #[.int .i64 w, .int .i64 x, .int .i64 y, .int .i64 z]) (by simp [results, Tryd.results63, go_sem]) rfl ⟨hfin.out, rfl⟩
    · have hb1 : (b + y != 0) = false := by rw [bne_eq_false_iff_eq]; omega
      go_wp2
      exact bodyPost_ret (v := .tuple #[.int .i64 w, .int .i64 x, .int .i64 y, .int .i64 z]) (by simp [results, Tryd.results63, go_sem]) rfl ⟨hfin.out, rfl⟩
end Go.Proofs.YtbeocfiimminiaaDoor
