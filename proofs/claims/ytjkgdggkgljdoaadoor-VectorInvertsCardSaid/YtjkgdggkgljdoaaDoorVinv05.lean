/-
  Plain facts on Lehmer's steps: what the first digits of two numbers decide.
-/
import Derived.Test.YtjkgdggkgljdoaaDoorVinv01
import Derived.Test.YtjkgdggkgljdoaaDoorChecked
import Derived.WalkKit
import Derived.Test.YtjkgdggkgljdoaaDoorVinv03
import Derived.Laws.EntriesVeiled
namespace Go.Proofs.YtjkgdggkgljdoaaDoor
theorem zdo {u v k : Int} (hk : 0 ≤ k) (h : u ≤ v) : k * u ≤ k * v := Int.mul_le_mul_of_nonneg_left h hk
structure LI (A0 B0 : Nat) (a0 b0 a b w x y z : Int) : Prop where
  ea : a = w * a0 + x * b0
  eb : b = y * a0 + z * b0
  pat : (1 ≤ w ∧ x ≤ 0 ∧ y ≤ 0 ∧ 1 ≤ z ∧ w * z - x * y = 1) ∨ (w ≤ 0 ∧ 1 ≤ x ∧ 1 ≤ y ∧ z ≤ -1 ∧ w * z - x * y = -1)
  aw : 0 ≤ a + w
  ax : 0 ≤ a + x
  by_ : 0 ≤ b + y
  bz : 0 ≤ b + z
  num : ∃ A B : Nat, (A : Int) = w * A0 + x * B0 ∧ (B : Int) = y * A0 + z * B0 ∧ B ≤ A ∧ Nat.gcd A B = Nat.gcd A0 B0 ∧ (x ≠ 0 → B < A ∧ A ≤ B0) ∧ (x = 0 → A = A0 ∧ B = B0)
theorem LI.start {A0 B0 : Nat} {a0 b0 : Int} (ha : 0 ≤ a0) (hb : 0 ≤ b0) (h : B0 ≤ A0) : LI A0 B0 a0 b0 a0 b0 1 0 0 1 :=
  ⟨by omega, by omega, .inl ⟨by omega, by omega, by omega, by omega, by omega⟩, by omega, by omega, by omega, by omega, ⟨A0, B0, by omega, by omega, h, rfl, fun h => absurd rfl h, fun _ => ⟨rfl, rfl⟩⟩⟩
section
variable {A0 B0 : Nat} {a0 b0 a b w x y z : Int}
theorem LI.inv (h : LI A0 B0 a0 b0 a b w x y z) : 0 ≤ a ∧ 0 ≤ b ∧
    ((1 ≤ w ∧ x ≤ 0 ∧ y ≤ 0 ∧ 1 ≤ z ∧ a0 = z * a - x * b ∧ b0 = w * b - y * a) ∨ (w ≤ 0 ∧ 1 ≤ x ∧ 1 ≤ y ∧ z ≤ 0 ∧ a0 = x * b - z * a ∧ b0 = y * a - w * b)) := by
  have h1 := h.aw; have h2 := h.ax; have h3 := h.by_; have h4 := h.bz; have e1 := h.ea; have e2 := h.eb
  rcases h.pat with ⟨p1, p2, p3, p4, p5⟩ | ⟨p1, p2, p3, p4, p5⟩
  · refine ⟨by omega, by omega, .inl ⟨p1, p2, p3, p4, ?_, ?_⟩⟩
    · have : z * a - x * b = (w * z - x * y) * a0 := by rw [e1, e2]; grind
      rw [this, p5]; omega
    · have : w * b - y * a = (w * z - x * y) * b0 := by rw [e1, e2]; grind
      rw [this, p5]; omega
  · refine ⟨by omega, by omega, .inr ⟨p1, p2, p3, by omega, ?_, ?_⟩⟩
    · have : x * b - z * a = -(w * z - x * y) * a0 := by rw [e1, e2]; grind
      rw [this, p5]; omega
    · have : y * a - w * b = -(w * z - x * y) * b0 := by rw [e1, e2]; grind
      rw [this, p5]; omega
theorem LI.bounds (h : LI A0 B0 a0 b0 a b w x y z) (ha0 : a0 ≤ 999999999999999999) (hb0 : b0 ≤ 999999999999999999) : 0 ≤ a ∧ a ≤ 999999999999999999 ∧ 0 ≤ b ∧ b ≤ 999999999999999999 := by
  obtain ⟨ha, hb, hp⟩ := h.inv
  rcases hp with ⟨p1, p2, p3, p4, e1, e2⟩ | ⟨p1, p2, p3, p4, e1, e2⟩
  · have h1 := Int.mul_le_mul_of_nonneg_right p4 ha
    have h2 := Int.mul_le_mul_of_nonneg_right p1 hb
    have h3 := Int.mul_nonneg (show 0 ≤ -x by omega) hb
    have h4 := Int.mul_nonneg (show 0 ≤ -y by omega) ha
    rw [Int.neg_mul] at h3 h4
    omega
  · have h1 := Int.mul_le_mul_of_nonneg_right p2 hb
    have h2 := Int.mul_le_mul_of_nonneg_right p3 ha
    have h3 := Int.mul_nonneg (show 0 ≤ -z by omega) ha
    have h4 := Int.mul_nonneg (show 0 ≤ -w by omega) hb
    rw [Int.neg_mul] at h3 h4
    omega
theorem LI.fits (h : LI A0 B0 a0 b0 a b w x y z) (ha0 : a0 ≤ 999999999999999999) (hb0 : b0 ≤ 999999999999999999) (hw : -999999999 ≤ w ∧ w ≤ 999999999) (hx : -999999999 ≤ x ∧ x ≤ 999999999) (hy : -999999999 ≤ y ∧ y ≤ 999999999) (hz : -999999999 ≤ z ∧ z ≤ 999999999)
    {q : Int} (hq0 : 0 ≤ q) (hq1 : q ≤ a + w) (hq2 : q ≤ a + x) (hq3 : q * (b + y) ≤ a + w) :
    -2000000000000000000 ≤ q * y ∧ q * y ≤ 2000000000000000000 ∧ -2000000000000000000 ≤ q * z ∧ q * z ≤ 2000000000000000000 ∧ 0 ≤ q * b ∧ q * b ≤ 4000000000000000000 := by
  obtain ⟨hab, _⟩ := h.bounds ha0 hb0
  have hbnd := h.bounds ha0 hb0
  obtain ⟨ha, hb, hp⟩ := h.inv
  have hqb := Int.mul_nonneg hq0 hb
  rw [Int.mul_add] at hq3
  have lim : ∀ {u v : Int}, 0 ≤ u → u ≤ 999999999 → 0 ≤ v → v ≤ 999999999 → u * v ≤ 999999998000000001 := by
    intro u v h1 h2 h3 h4
    have := Int.mul_le_mul h2 h4 h3 (by omega : (0 : Int) ≤ 999999999)
    omega
  rcases hp with ⟨p1, p2, p3, p4, e1, e2⟩ | ⟨p1, p2, p3, p4, e1, e2⟩
  · -- y ≤ 0, 1 ≤ z
    have h1 := Int.mul_le_mul_of_nonneg_right hq1 (show 0 ≤ -y by omega)
    have h2 := Int.mul_nonneg hq0 (show 0 ≤ -y by omega)
    have h3 := Int.mul_le_mul_of_nonneg_right hq2 (show 0 ≤ z by omega)
    have h4 := Int.mul_nonneg hq0 (show 0 ≤ z by omega)
    have h5 := lim (u := w) (v := -y) (by omega) (by omega) (by omega) (by omega)
    have h6 := Int.mul_nonneg (show 0 ≤ w by omega) hb
    have h7 := Int.mul_nonneg (show 0 ≤ -x by omega) hb
    have h8 := Int.mul_nonneg (show 0 ≤ -x by omega) (show 0 ≤ z by omega)
    simp only [Int.add_mul, Int.mul_neg, Int.neg_mul] at h1 h2 h3 h5 h7 h8
    rw [Int.mul_comm a y] at h1
    rw [Int.mul_comm a z] at h3
    omega
  · -- 1 ≤ y, z ≤ 0
    have h1 := Int.mul_le_mul_of_nonneg_right hq1 (show 0 ≤ y by omega)
    have h2 := Int.mul_nonneg hq0 (show 0 ≤ y by omega)
    have h3 := Int.mul_le_mul_of_nonneg_right hq2 (show 0 ≤ -z by omega)
    have h4 := Int.mul_nonneg hq0 (show 0 ≤ -z by omega)
    have h5 := lim (u := x) (v := -z) (by omega) (by omega) (by omega) (by omega)
    have h6 := Int.mul_nonneg (show 0 ≤ x by omega) hb
    have h7 := Int.mul_nonneg (show 0 ≤ -w by omega) hb
    have h8 := Int.mul_nonneg (show 0 ≤ -w by omega) (show 0 ≤ y by omega)
    simp only [Int.add_mul, Int.mul_neg, Int.neg_mul] at h1 h3 h4 h5 h7 h8
    rw [Int.mul_comm a y] at h1
    rw [Int.mul_comm a z] at h3
    omega
theorem LI.exact (h : LI A0 B0 a0 b0 a b w x y z) {S : Nat} (hS : 0 < S) (hA : a0 = (A0 / S : Nat)) (hB : b0 = (B0 / S : Nat)) {q : Int} (hy : 0 < b + y) (hz : 0 < b + z) (hq1 : q = (a + w) / (b + y)) (hq2 : q = (a + x) / (b + z))
    {A B : Nat} (eA : (A : Int) = w * A0 + x * B0) (eB : (B : Int) = y * A0 + z * B0) : 0 < B ∧ 0 ≤ q ∧ q * B ≤ A ∧ (A : Int) < (q + 1) * B := by
  have hq0 : 0 ≤ q := by rw [hq1]; exact Int.ediv_nonneg h.aw (by omega)
  have f1 : q * (b + y) ≤ a + w := by rw [hq1]; exact Int.ediv_mul_le _ (by omega)
  have f2 : q * (b + z) ≤ a + x := by rw [hq2]; exact Int.ediv_mul_le _ (by omega)
  have f3 : a + w < (q + 1) * (b + y) := by rw [hq1]; exact Int.lt_ediv_add_one_mul_self _ (by omega)
  have f4 : a + x < (q + 1) * (b + z) := by rw [hq2]; exact Int.lt_ediv_add_one_mul_self _ (by omega)
  have hS' : (0 : Int) < S := by omega
  have lA : a0 * S ≤ A0 := by rw [hA]; have := Nat.div_mul_le_self A0 S; exact_mod_cast this
  have lB : b0 * S ≤ B0 := by rw [hB]; have := Nat.div_mul_le_self B0 S; exact_mod_cast this
  have uA : (A0 : Int) < (a0 + 1) * S := by rw [hA]; have := Nat.lt_div_mul_add (a := A0) hS; rw [Int.add_mul, Int.one_mul]; exact_mod_cast this
  have uB : (B0 : Int) < (b0 + 1) * S := by rw [hB]; have := Nat.lt_div_mul_add (a := B0) hS; rw [Int.add_mul, Int.one_mul]; exact_mod_cast this
  have key : ((a + x) * S ≤ A ∧ (A : Int) < (a + w) * S ∧ (b + y) * S ≤ B ∧ (B : Int) < (b + z) * S) ∨ ((a + w) * S ≤ A ∧ (A : Int) < (a + x) * S ∧ (b + z) * S ≤ B ∧ (B : Int) < (b + y) * S) := by
    rw [eA, eB, h.ea, h.eb]
    rcases h.pat with ⟨p1, p2, p3, p4, _⟩ | ⟨p1, p2, p3, p4, _⟩
    · left
      have g1 := zdo (show 0 ≤ w by omega) lA
      have g2 := zdo (show 0 ≤ -x by omega) (Int.le_of_lt uB)
      have g3 := zdo (show 0 ≤ w - 1 by omega) (Int.le_of_lt uA)
      have g4 := zdo (show 0 ≤ -x by omega) lB
      have g5 := zdo (show 0 ≤ -y by omega) (Int.le_of_lt uA)
      have g6 := zdo (show 0 ≤ z by omega) lB
      have g7 := zdo (show 0 ≤ z - 1 by omega) (Int.le_of_lt uB)
      have g8 := zdo (show 0 ≤ -y by omega) lA
      refine ⟨by grind, by grind, by grind, by grind⟩
    · right
      have g1 := zdo (show 0 ≤ -w by omega) (Int.le_of_lt uA)
      have g2 := zdo (show 0 ≤ x by omega) lB
      have g3 := zdo (show 0 ≤ -w by omega) lA
      have g4 := zdo (show 0 ≤ x - 1 by omega) (Int.le_of_lt uB)
      have g5 := zdo (show 0 ≤ y by omega) lA
      have g6 := zdo (show 0 ≤ -z by omega) (Int.le_of_lt uB)
      have g7 := zdo (show 0 ≤ y - 1 by omega) (Int.le_of_lt uA)
      have g8 := zdo (show 0 ≤ -z by omega) lB
      refine ⟨by grind, by grind, by grind, by grind⟩
  rcases key with ⟨k1, k2, k3, k4⟩ | ⟨k1, k2, k3, k4⟩
  · have hBp : (0 : Int) < B := Int.lt_of_lt_of_le (Int.mul_pos hy hS') k3
    have m1 := zdo hq0 (Int.le_of_lt k4)
    have m2 := Int.mul_le_mul_of_nonneg_right f2 (Int.le_of_lt hS')
    have m3 := zdo (show 0 ≤ q + 1 by omega) k3
    have m4 := Int.mul_le_mul_of_nonneg_right (Int.le_of_lt f3) (Int.le_of_lt hS')
    refine ⟨by omega, hq0, by grind, by grind⟩
  · have hBp : (0 : Int) < B := Int.lt_of_lt_of_le (Int.mul_pos hz hS') k3
    have m1 := zdo hq0 (Int.le_of_lt k4)
    have m2 := Int.mul_le_mul_of_nonneg_right f1 (Int.le_of_lt hS')
    have m3 := zdo (show 0 ≤ q + 1 by omega) k3
    have m4 := Int.mul_le_mul_of_nonneg_right (Int.le_of_lt f4) (Int.le_of_lt hS')
    refine ⟨by omega, hq0, by grind, by grind⟩
theorem LI.step (h : LI A0 B0 a0 b0 a b w x y z) {S : Nat} (hS : 0 < S) (hA : a0 = (A0 / S : Nat)) (hB : b0 = (B0 / S : Nat)) {q : Int} (hy : 0 < b + y) (hz : 0 < b + z) (hq1 : q = (a + w) / (b + y)) (hq2 : q = (a + x) / (b + z)) :
    LI A0 B0 a0 b0 b (a - q * b) y z (w - q * y) (x - q * z) := by
  obtain ⟨A, B, eA, eB, hle, hg, hx1, hx0⟩ := h.num
  obtain ⟨hBp, hq0, k1, k2⟩ := h.exact hS hA hB hy hz hq1 hq2 eA eB
  have hq : 1 ≤ q := by
    rcases Int.lt_or_le q 1 with h0 | h0
    · have : q = 0 := by omega
      subst this
      omega
    · exact h0
  obtain ⟨qn, rfl⟩ := Int.eq_ofNat_of_zero_le hq0
  have k1' : qn * B ≤ A := by exact_mod_cast k1
  have k2' : A < (qn + 1) * B := by exact_mod_cast k2
  have f1 : (qn : Int) * (b + y) ≤ a + w := by rw [hq1]; exact Int.ediv_mul_le _ (by omega)
  have f2 : (qn : Int) * (b + z) ≤ a + x := by rw [hq2]; exact Int.ediv_mul_le _ (by omega)
  have hqn : A / B = qn := by
    apply Nat.div_eq_of_lt_le
    · exact k1'
    · exact k2'
  have hmod : A % B = A - qn * B := by rw [Nat.mod_eq_sub_mul_div, hqn, Nat.mul_comm]
  refine ⟨h.eb, ?_, ?_, by omega, by omega, ?_, ?_, ⟨B, A % B, eB, ?_, Nat.le_of_lt (Nat.mod_lt _ hBp), ?_, fun _ => ⟨Nat.mod_lt _ hBp, ?_⟩, fun h0 => ?_⟩⟩
  · rw [h.ea, h.eb]; grind
  · rcases h.pat with ⟨p1, p2, p3, p4, p5⟩ | ⟨p1, p2, p3, p4, p5⟩
    · have h1 := Int.mul_nonneg hq0 (show 0 ≤ -y by omega)
      have h2 := Int.mul_le_mul_of_nonneg_right hq (show 0 ≤ z by omega)
      rw [Int.mul_neg] at h1
      exact .inr ⟨p3, p4, by omega, by omega, by grind⟩
    · have h1 := Int.mul_nonneg hq0 (show 0 ≤ -z by omega)
      have h2 := Int.mul_le_mul_of_nonneg_right hq (show 0 ≤ y by omega)
      rw [Int.mul_neg] at h1
      exact .inl ⟨p3, by omega, by omega, by omega, by grind⟩
  · rw [Int.mul_add] at f1; omega
  · rw [Int.mul_add] at f2; omega
  · rw [hmod, Int.ofNat_sub k1', Int.natCast_mul, eA, eB]; grind
  · rw [← hg, Nat.gcd_comm A B, Nat.gcd_rec B A, Nat.gcd_comm]
  · rcases Int.lt_trichotomy x 0 with h1 | h1 | h1
    · have := hx1 (by omega); omega
    · have := hx0 h1; omega
    · have := hx1 (by omega); omega
  · rcases h.pat with ⟨p1, p2, p3, p4, p5⟩ | ⟨p1, p2, p3, p4, p5⟩ <;> omega
end
end Go.Proofs.YtjkgdggkgljdoaaDoor
namespace Go.Proofs.YtjkgdggkgljdoaaDoor
open Go.RowKit
set_option linter.unusedVariables false
theorem max4 (P : Program) (w : World) (k : IntKind) (ts : Array TypeId) (t : TypeId) (x y z u : Int) : ∃ M, (Builtin.max_ ts t #[.int k x, .int k y, .int k z, .int k u]).run P w = .ok (.int k M) w ∧ x ≤ M ∧ y ≤ M ∧ z ≤ M ∧ u ≤ M ∧ (M = x ∨ M = y ∨ M = z ∨ M = u) := by
  refine ⟨_, by simp [Builtin.max_, Builtin.max2]; rfl, ?_⟩
  by_cases h1 : x < y <;> by_cases h2 : (if x < y then y else x) < z <;> by_cases h3 : (if (if x < y then y else x) < z then z else (if x < y then y else x)) < u <;> simp [h1] at h2 h3 ⊢ <;> simp_all <;> omega
def StepsR (A0 B0 : Nat) (a0 b0 : Int) (e : Ending) : Prop := ∃ w x y z a b : Int, e = .returned (.tuple #[.int .i64 w, .int .i64 x, .int .i64 y, .int .i64 z]) ∧ LI A0 B0 a0 b0 a b w x y z ∧
  (-999999999 ≤ w ∧ w ≤ 999999999 ∧ -999999999 ≤ x ∧ x ≤ 999999999) ∧ (-999999999 ≤ y ∧ y ≤ 999999999 ∧ -999999999 ≤ z ∧ z ≤ 999999999)
set_option maxRecDepth 100000 in
set_option maxHeartbeats 2000000 in
theorem steps_n (W : World) (A0 B0 S : Nat) (a0 b0 : Int) (hS : 0 < S) (hA : a0 = (A0 / S : Nat)) (hB : b0 = (B0 / S : Nat)) (hle : B0 ≤ A0) (ha9 : a0 ≤ 999999999999999999) (hb9 : b0 ≤ 999999999999999999) :
    Calls Tryd.prog 134 #[.int .i64 a0, .int .i64 b0] W fun e w' => StepsR A0 B0 a0 b0 e ∧ W = w' := by
  have ha0 : 0 ≤ a0 := by rw [hA]; exact Int.natCast_nonneg _
  have hb0 : 0 ≤ b0 := by rw [hB]; exact Int.natCast_nonneg _
  have HA := Lib.hid hA
  have HB := Lib.hid hB
  clear hA hB
  go_enter Tryd.func134, Tryd.ntmps134
  go_wp2
  go_loop [0, 1, 4, 5, 6, 7] (fun sa sb sw sx sy sz => ∃ a b w x y z : Int, sa = .int .i64 a ∧ sb = .int .i64 b ∧ sw = .int .i64 w ∧ sx = .int .i64 x ∧ sy = .int .i64 y ∧ sz = .int .i64 z ∧
      (-999999999 ≤ w ∧ w ≤ 999999999 ∧ -999999999 ≤ x ∧ x ≤ 999999999) ∧ (-999999999 ≤ y ∧ y ≤ 999999999 ∧ -999999999 ≤ z ∧ z ≤ 999999999) ∧ Hid (LI A0 B0 a0 b0 a b w x y z)) (fun _ sb _ _ sy _ => (intOf sb + intOf sy).toNat)
  case atStart => exact ⟨a0, b0, 1, 0, 0, 1, rfl, rfl, rfl, rfl, rfl, rfl, by omega, by omega, LI.start ha0 hb0 hle⟩
  case round =>
    obtain ⟨a, b, w, x, y, z, rfl, rfl, rfl, rfl, rfl, rfl, ⟨hw0, hw1, hx0, hx1⟩, ⟨hy0, hy1, hz0, hz1⟩, hrel⟩ := hrel
    obtain ⟨hab0, hab1, hab2, hab3⟩ := hrel.out.bounds ha9 hb9
    have haw := hrel.out.aw
    have hax := hrel.out.ax
    have hby := hrel.out.by_
    have hbz := hrel.out.bz
    have hfin : Hid (StepsR A0 B0 a0 b0 (.returned (.tuple #[.int .i64 w, .int .i64 x, .int .i64 y, .int .i64 z]))) := ⟨w, x, y, z, a, b, rfl, hrel.out, ⟨hw0, hw1, hx0, hx1⟩, ⟨hy0, hy1, hz0, hz1⟩⟩
    rcases Int.lt_or_le 0 (b + y) with hpy | hpy
    · rcases Int.lt_or_le 0 (b + z) with hpz | hpz
      · have hb1 : (b + y != 0) = true := by rw [bne_iff_ne]; omega
        have hb2 : (b + z != 0) = true := by rw [bne_iff_ne]; omega
        by_cases hq : (a + w) / (b + y) = (a + x) / (b + z)
        · have hq0 : 0 ≤ (a + w) / (b + y) := Int.ediv_nonneg haw (by omega)
          have hq1 : (a + w) / (b + y) ≤ a + w := Int.ediv_le_self _ haw
          have hq2 : (a + x) / (b + z) ≤ a + x := Int.ediv_le_self _ hax
          have hq3 : (a + w) / (b + y) * (b + y) ≤ a + w := Int.ediv_mul_le _ (by omega)
          have hst := Lib.hid (hrel.out.step hS HA.out HB.out hpy hpz rfl hq)
          have hbq : ((a + w) / (b + y) != (a + x) / (b + z)) = false := by simp [hq]
          rw [← hq] at hq2
          have Hq := Lib.hid hq
          clear hq
          obtain ⟨f1, f2, f3, f4, f5, f6⟩ := hrel.out.fits ha9 hb9 ⟨hw0, hw1⟩ ⟨hx0, hx1⟩ ⟨hy0, hy1⟩ ⟨hz0, hz1⟩ hq0 hq1 hq2 hq3
          clear hq3
          by_cases hs : -999999999 ≤ w - (a + w) / (b + y) * y ∧ w - (a + w) / (b + y) * y ≤ 999999999 ∧ -999999999 ≤ x - (a + w) / (b + y) * z ∧ x - (a + w) / (b + y) * z ≤ 999999999
          · obtain ⟨s1, s2, s3, s4⟩ := hs
            obtain ⟨M, hM, m1, m2, m3, m4, m5⟩ := max4 Tryd.prog W .i64 #[2, 2, 2, 2] 2 (w - (a + w) / (b + y) * y) (-(w - (a + w) / (b + y) * y)) (x - (a + w) / (b + y) * z) (-(x - (a + w) / (b + y) * z))
            have hM9 : M ≤ 999999999 := by rcases m5 with h | h | h | h <;> omega
            clear m1 m2 m3 m4 m5
            go_wp2
            go_round
            case rel => exact ⟨_, _, _, _, _, _, rfl, rfl, rfl, rfl, rfl, rfl, ⟨hy0, hy1, hz0, hz1⟩, ⟨s1, s2, s3, s4⟩, hst.out⟩
            case measure =>
              have hme : (a + w) % (b + y) < b + y := Int.emod_lt_of_pos _ hpy
              have hmz : (a + w) % (b + y) = a - (a + w) / (b + y) * b + (w - (a + w) / (b + y) * y) := by
                have := Int.emod_def (a + w) (b + y)
                rw [this]
                grind
              have hm0 : 0 ≤ (a + w) % (b + y) := Int.emod_nonneg _ (by omega)
              simp [intOf]
              omega
          · obtain ⟨M, hM, m1, m2, m3, m4, m5⟩ := max4 Tryd.prog W .i64 #[2, 2, 2, 2] 2 (w - (a + w) / (b + y) * y) (-(w - (a + w) / (b + y) * y)) (x - (a + w) / (b + y) * z) (-(x - (a + w) / (b + y) * z))
            have hM9 : 1000000000 ≤ M := by omega
            clear m1 m2 m3 m4 m5 hs
            go_wp2
            exact bodyPost_ret (v := .tuple #[.int .i64 w, .int .i64 x, .int .i64 y, .int .i64 z]) (by simp [results, Tryd.results134, go_sem]) rfl ⟨hfin.out, rfl⟩
        · have hbq : ((a + w) / (b + y) != (a + x) / (b + z)) = true := by simpa using hq
          have hq0 : 0 ≤ (a + w) / (b + y) := Int.ediv_nonneg haw (by omega)
          have hq1 : (a + w) / (b + y) ≤ a + w := Int.ediv_le_self _ haw
          have hq4 : 0 ≤ (a + x) / (b + z) := Int.ediv_nonneg hax (by omega)
          have hq2 : (a + x) / (b + z) ≤ a + x := Int.ediv_le_self _ hax
          clear hq
          go_wp2
          exact bodyPost_ret (v := .tuple #[.int .i64 w, .int .i64 x, .int .i64 y, .int .i64 z]) (by simp [results, Tryd.results134, go_sem]) rfl ⟨hfin.out, rfl⟩
      · have hz' : b + z = 0 := by omega
        have hb1 : (b + y != 0) = true := by rw [bne_iff_ne]; omega
        have hb2 : (b + z != 0) = false := by rw [bne_eq_false_iff_eq]; exact hz'
        clear hz'
        go_wp2
        exact bodyPost_ret (v := .tuple #[.int .i64 w, .int .i64 x, .int .i64 y, .int .i64 z]) (by simp [results, Tryd.results134, go_sem]) rfl ⟨hfin.out, rfl⟩
    · have hb1 : (b + y != 0) = false := by rw [bne_eq_false_iff_eq]; omega
      go_wp2
      exact bodyPost_ret (v := .tuple #[.int .i64 w, .int .i64 x, .int .i64 y, .int .i64 z]) (by simp [results, Tryd.results134, go_sem]) rfl ⟨hfin.out, rfl⟩
end Go.Proofs.YtjkgdggkgljdoaaDoor
namespace Go.Proofs.YtjkgdggkgljdoaaDoor
theorem top_three {y n : Nat} (hn : 3 ≤ n) (hy : y < pw n) : y / pw (n - 3) = ((lim y).getD (n - 1) 0 * 1000000000 + (lim y).getD (n - 2) 0) * 1000000000 + (lim y).getD (n - 3) 0 := by
  obtain ⟨m, rfl⟩ : ∃ m, n = m + 3 := ⟨n - 3, by omega⟩
  rw [zfb, zfb, zfb]
  simp only [Nat.add_sub_cancel, show m + 3 - 1 = m + 2 from by omega, show m + 3 - 2 = m + 1 from by omega]
  have h1 : y / pw (m + 1) = y / pw m / 1000000000 := by rw [zby, Nat.mul_comm, Nat.div_div_eq_div_mul]
  have h2 : y / pw (m + 2) = y / pw m / 1000000000 / 1000000000 := by rw [show m + 2 = (m + 1) + 1 from rfl, zby, Nat.mul_comm, ← Nat.div_div_eq_div_mul, h1]
  have h3 : y / pw m < 1000000000000000000000000000 := by
    rw [Nat.div_lt_iff_lt_mul (zff m)]
    rw [show m + 3 = 3 + m from by omega, pw_add] at hy
    simp only [pw] at hy ⊢
    omega
  rw [h1, h2]
  clear h1 h2
  generalize y / pw m = Z at *
  omega
def TensAt (top t c : Nat) : Prop := t * c = 1000000000 ∧ top * t < 1000000000
theorem TensAt.start {top : Nat} (h : top < 1000000000) : TensAt top 1 1000000000 := ⟨rfl, by omega⟩
def dig18 (y n t : Nat) : Nat := ((lim y).getD (n - 1) 0 * 1000000000 + (lim y).getD (n - 2) 0) * t + (lim y).getD (n - 3) 0 * t / 1000000000
theorem dig18_eq {y n t c : Nat} (hn : 3 ≤ n) (hy : y < pw n) (h : t * c = 1000000000) : dig18 y n t = y / (pw (n - 3) * c) := by
  have hc : 0 < c := by rcases Nat.eq_zero_or_pos c with h0 | h0; · subst h0; omega
                        · exact h0
  have ht : 0 < t := by rcases Nat.eq_zero_or_pos t with h0 | h0; · subst h0; omega
                        · exact h0
  unfold dig18
  have e0 : y / (pw (n - 3) * c) = y / pw (n - 3) / c := (Nat.div_div_eq_div_mul _ _ _).symm
  rw [e0, top_three hn hy, ← h]
  have e1 : (lim y).getD (n - 3) 0 * t / (t * c) = (lim y).getD (n - 3) 0 / c := by rw [Nat.mul_comm t c, Nat.mul_div_mul_right _ _ ht]
  have e2 : ((lim y).getD (n - 1) 0 * (t * c) + (lim y).getD (n - 2) 0) * (t * c) + (lim y).getD (n - 3) 0 = ((lim y).getD (n - 1) 0 * (t * c) + (lim y).getD (n - 2) 0) * t * c + (lim y).getD (n - 3) 0 := by rw [Nat.mul_assoc _ t c]
  have e3 : ∀ u g : Nat, (u * c + g) / c = u + g / c := fun u g => by rw [Nat.add_comm, Nat.add_mul_div_right _ _ hc, Nat.add_comm]
  rw [e1, e2, e3]
theorem dig18_le {y n t c : Nat} (h : t * c = 1000000000) (htop : (lim y).getD (n - 1) 0 * t < 1000000000) : (lim y).getD (n - 1) 0 * t + t ≤ 1000000000 ∧ t ≤ 1000000000 := by
  have hc : 0 < c := by rcases Nat.eq_zero_or_pos c with h0 | h0; · subst h0; omega
                        · exact h0
  generalize (lim y).getD (n - 1) 0 = g at *
  have h1 : g < c := by
    rcases Nat.lt_or_ge g c with h1 | h1
    · exact h1
    · have := Nat.mul_le_mul_right t h1
      rw [Nat.mul_comm c t] at this
      omega
  have h2 := Nat.mul_le_mul_right t h1
  rw [Nat.mul_comm c t, Nat.succ_eq_add_one, Nat.add_mul, Nat.one_mul] at h2
  exact ⟨by omega, by rw [← h]; exact Nat.le_mul_of_pos_right _ hc⟩
theorem cast_mul_le {a b c : Nat} (h : a * b ≤ c) : (a : Int) * (b : Int) ≤ (c : Int) := by rw [← Int.natCast_mul]; omega
theorem uncast_lt10 {a b : Nat} (h : (a : Int) * (b : Int) * 10 < 1000000000) : a * b * 10 < 1000000000 := by rw [← Int.natCast_mul] at h; omega
theorem cast_top {l : List Nat} {n T : Nat} (h : l.getD (n - 1) 0 * T + T ≤ 1000000000) : ((l.getD ((n : Int) - 1).toNat 0 : Nat) : Int) * (T : Int) + (T : Int) ≤ 1000000000 := by
  rw [show ((n : Int) - 1).toNat = n - 1 from by omega, ← Int.natCast_mul]
  omega
theorem tens_next {top T : Nat} (h1 : 1 ≤ top) (hlt : top * T * 10 < 1000000000) (h : ∃ t, t ≤ 9 ∧ T = 10 ^ t) : T * 10 < 1000000000 ∧ (∃ t, t ≤ 9 ∧ T * 10 = 10 ^ t) ∧ top * (T * 10) ≤ 999999999 := by
  have h2 := Nat.mul_le_mul_right T h1
  have h3 : T * 10 < 1000000000 := by omega
  refine ⟨h3, ?_, by rw [← Nat.mul_assoc]; omega⟩
  obtain ⟨t, g1, g2⟩ := h
  refine ⟨t + 1, ?_, by rw [g2, Nat.pow_succ]⟩
  rcases Nat.lt_or_ge t 9 with g3 | g3
  · omega
  · have g4 := Nat.pow_le_pow_right (show 0 < 10 by omega) g3
    rw [← g2] at g4
    omega
theorem lead_end {x y n T : Nat} (h3 : 3 ≤ n) (hx : x < pw n) (hle : y ≤ x) (htop : (lim x).getD (n - 1) 0 * T ≤ 999999999) (h : ∃ t, t ≤ 9 ∧ T = 10 ^ t) :
    ∃ S : Nat, 0 < S ∧ dig18 x n T = x / S ∧ dig18 y n T = y / S ∧ x / S ≤ 999999999999999999 ∧ (lim x).getD (n - 1) 0 * T + T ≤ 1000000000 ∧ (lim y).getD (n - 1) 0 * T + T ≤ 1000000000 := by
  obtain ⟨t, ht9, hTt⟩ := h
  have hcc : T * 10 ^ (9 - t) = 1000000000 := by rw [hTt, ← Nat.pow_add, show t + (9 - t) = 9 from by omega]
  have hyn : y < pw n := Nat.lt_of_le_of_lt hle hx
  have ex := dig18_eq h3 hx hcc
  have ey := dig18_eq h3 hyn hcc
  have h1 : (lim y).getD (n - 1) 0 ≤ (lim x).getD (n - 1) 0 := by
    rw [zfb, zfb]
    have h2 : x / pw (n - 1) < 1000000000 := by
      rw [Nat.div_lt_iff_lt_mul (zff _)]
      rw [show n = (n - 1) + 1 from by omega, zby] at hx
      exact hx
    have h3 : y / pw (n - 1) ≤ x / pw (n - 1) := Nat.div_le_div_right hle
    rw [Nat.mod_eq_of_lt h2, Nat.mod_eq_of_lt (by omega)]
    exact h3
  have hty := Nat.mul_le_mul_right T h1
  have hlx := dig18_le (y := x) (n := n) hcc (by omega)
  have hly := dig18_le (y := y) (n := n) hcc (by omega)
  refine ⟨pw (n - 3) * 10 ^ (9 - t), Nat.mul_pos (zff _) (Nat.pow_pos (by omega)), ex, ey, ?_, hlx.1, hly.1⟩
  rw [← ex]
  have g2 := zep (zbh x) (n - 2)
  have g3 := zep (zbh x) (n - 3)
  unfold dig18
  generalize (lim x).getD (n - 1) 0 = u1 at *
  generalize (lim x).getD (n - 2) 0 = u2 at *
  generalize (lim x).getD (n - 3) 0 = u3 at *
  have e : (u1 * 1000000000 + u2) * T = u1 * T * 1000000000 + u2 * T := by grind
  have k3 := Nat.mul_le_mul_right T (Nat.le_of_lt_succ g2)
  have k4 := Nat.mul_le_mul_right T (Nat.le_of_lt_succ g3)
  rw [e]
  omega
end Go.Proofs.YtjkgdggkgljdoaaDoor
namespace Go.Proofs.YtjkgdggkgljdoaaDoor
open Go.RowKit
set_option linter.unusedVariables false
set_option maxHeartbeats 400000 in
theorem limb_n {w : World} {va : Value} {y lo hi Bl : Nat} (i : Int) (h0 : 0 ≤ i) (h9 : i ≤ 4294967296) (ha : IsN w lo hi va y) (hc : w.cell? ⟨Bl, 0, none⟩ = some va) :
    Calls Tryd.prog 143 #[.int .i64 i, .pointer (some ⟨Bl, 0, none⟩)] w fun e w' => e = .returned (.int .u64 ((lim y).getD i.toNat 0 : Nat)) ∧ w' = w := by
  have hal := ha.length_le
  unfold maxLen at hal
  obtain ⟨A, c, rfl, _, _, hA⟩ := ha
  obtain ⟨k, rfl⟩ := Int.eq_ofNat_of_zero_le h0
  rw [Int.toNat_natCast]
  generalize hl : lim y = l at *
  have Hl := Lib.hid hl
  clear hl
  rcases Nat.lt_or_ge k l.length with h | h
  · obtain ⟨b, off, rfl, _, _, hca⟩ := hA (zbm (j := k) h)
    obtain ⟨x, hx, hx0, hck⟩ := zen (j := k) hca h
    have hx9 : x ≤ 999999999 := by
      have := hx.out
      have := zep (zbh y) k
      rw [Hl.out] at this
      omega
    clear hca
    go_enter Tryd.func143, Tryd.ntmps143
    go_wp2
    go_ret
    exact ⟨zbb hx.out, rfl⟩
  · have H := Lib.hid (zck h)
    go_enter Tryd.func143, Tryd.ntmps143
    go_wp2
    go_ret
    exact ⟨zbb (by rw [H.out]; rfl), rfl⟩
theorem IsN.drewB {w : World} {lo hi : Nat} {v : Value} {x : Nat} (h : IsN w lo hi v x) (n : Nat) : IsN (w.drewN n) lo hi v x := h
set_option maxRecDepth 100000 in
set_option maxHeartbeats 1000000 in
theorem lead1_n {w : World} {va : Value} {y lo hi Bn Bt : Nat} (n t : Int) (ha : IsN w lo hi va y) (hi1 : hi ≤ w.heap.size) (hn0 : 3 ≤ n) (hn9 : n ≤ 4294967296) (ht0 : 1 ≤ t) (ht9 : t ≤ 1000000000) (htop : ((lim y).getD (n - 1).toNat 0 : Int) * t + t ≤ 1000000000)
    (hn : w.cell? ⟨Bn, 0, none⟩ = some (.int .i64 n)) (ht : w.cell? ⟨Bt, 0, none⟩ = some (.int .u64 t)) (hBn : Bn < w.heap.size) (hBt : Bt < w.heap.size) :
    Calls Tryd.prog 142 #[va, .pointer (some ⟨Bn, 0, none⟩), .pointer (some ⟨Bt, 0, none⟩)] w fun e w' => e = .returned (.int .i64 (dig18 y n.toNat t.toNat : Nat)) ∧ Below w.heap.size w w' := by
  have Ha := Lib.hid ha
  obtain ⟨A, c, rfl, _, _, hA⟩ := ha
  have hn' := (World.cell?_alloc_lt w (.cells #[.slice A (lim y).length c] 48) ⟨Bn, 0, none⟩ hBn).trans hn
  have ht' := (World.cell?_alloc_lt w (.cells #[.slice A (lim y).length c] 48) ⟨Bt, 0, none⟩ hBt).trans ht
  have hl' : (w.alloc (.cells #[.slice A (lim y).length c] 48)).cell? ⟨w.heap.size, 0, none⟩ = some (.slice A (lim y).length c) := by
    have := cell_one_new w (.slice A (lim y).length c) 48 0 _ rfl
    rwa [Addr.add_lit] at this
  have HL := Lib.hid (And.intro (Ha.out.below ((Below.refl _ w).alloc (Nat.le_refl _) (.cells #[.slice A (lim y).length c] 48)) hi1) hl')
  clear hl' hn ht
  have hL : ∀ (i : Int), 0 ≤ i → i ≤ 4294967296 → ∀ k, Calls Tryd.prog 143 #[.int .i64 i, .pointer (some ⟨w.heap.size, 0, none⟩)] ((w.alloc (.cells #[.slice A (lim y).length c] 48)).drewN k) fun e w' => e = .returned (.int .u64 ((lim y).getD i.toNat 0 : Nat)) ∧ w' = (w.alloc (.cells #[.slice A (lim y).length c] 48)).drewN k :=
    fun i h0 h9 k => limb_n i h0 h9 (HL.out.1.drewB k) HL.out.2
  obtain ⟨g1, hg1, h1⟩ : ∃ g1 : Int, g1 = ((lim y).getD (n - 1).toNat 0 : Nat) ∧ _ := ⟨_, rfl, hL (n - 1) (by omega) (by omega)⟩
  obtain ⟨g2, hg2, h2⟩ : ∃ g2 : Int, g2 = ((lim y).getD (n - 2).toNat 0 : Nat) ∧ _ := ⟨_, rfl, hL (n - 2) (by omega) (by omega)⟩
  obtain ⟨g3, hg3, h3⟩ : ∃ g3 : Int, g3 = ((lim y).getD (n - 3).toNat 0 : Nat) ∧ _ := ⟨_, rfl, hL (n - 3) (by omega) (by omega)⟩
  rw [← hg1] at h1 htop
  rw [← hg2] at h2
  rw [← hg3] at h3
  have hb1 := zep (zbh y) (n - 1).toNat
  have hb2 := zep (zbh y) (n - 2).toNat
  have hb3 := zep (zbh y) (n - 3).toNat
  have g10 : 0 ≤ g1 := by omega
  have g19 : g1 ≤ 999999999 := by omega
  have g20 : 0 ≤ g2 := by omega
  have g29 : g2 ≤ 999999999 := by omega
  have g30 : 0 ≤ g3 := by omega
  have g39 : g3 ≤ 999999999 := by omega
  have p0 : 0 ≤ (g1 * 1000000000 + g2) * t := Int.mul_nonneg (by omega) (by omega)
  have p1 : (g1 * 1000000000 + g2) * t ≤ 1000000000000000000 := by
    have e : (g1 * 1000000000 + g2) * t = g1 * t * 1000000000 + g2 * t := by grind
    have h := Int.mul_le_mul_of_nonneg_right g29 (show 0 ≤ t by omega)
    rw [e]
    omega
  have p2 : 0 ≤ g3 * t := Int.mul_nonneg g30 (by omega)
  have p3 : g3 * t ≤ 999999999000000000 := by
    have h := Int.mul_le_mul g39 ht9 (by omega) (by omega : (0 : Int) ≤ 999999999)
    omega
  have hfin : Hid ((g1 * 1000000000 + g2) * t + g3 * t / 1000000000 = ((dig18 y n.toNat t.toNat : Nat) : Int)) := by
    obtain ⟨m, rfl⟩ := Int.eq_ofNat_of_zero_le (show 0 ≤ n by omega)
    obtain ⟨s, rfl⟩ := Int.eq_ofNat_of_zero_le (show 0 ≤ t by omega)
    have e1 : ((m : Int) - 1).toNat = m - 1 := by omega
    have e2 : ((m : Int) - 2).toNat = m - 2 := by omega
    have e3 : ((m : Int) - 3).toNat = m - 3 := by omega
    unfold Hid dig18
    rw [hg1, hg2, hg3, e1, e2, e3, Int.toNat_natCast, Int.toNat_natCast]
    simp
  have H1 := Lib.hid h1
  have H2 := Lib.hid h2
  have H3 := Lib.hid h3
  have HC : Hid (∀ k, Below w.heap.size w ((w.alloc (.cells #[.slice A (lim y).length c] 48)).drewN k)) := fun k => below_drewN ((Below.refl _ w).alloc (Nat.le_refl _) _) k
  clear hL h1 h2 h3 hg1 hg2 hg3 hb1 hb2 hb3 htop HL Ha
  go_enter Tryd.func142, Tryd.ntmps142
  go_wp2
  go_quiet ((go_at_call 143; first | (with_reducible exact Calls.quiet_of_same (H1.out _)) | (with_reducible exact Calls.quiet_of_same (H2.out _)) | (with_reducible exact Calls.quiet_of_same (H3.out _))))
  go_wp2
  go_ret
  exact ⟨zbb hfin.out, HC.out _⟩
def leftT (g : Nat) (w : World) : Nat := match w.cell? ⟨g, 0, none⟩ with
  | some (.int _ t) => 1000000000 - t.toNat
  | _ => 0
theorem leftT_eq {g : Nat} {w : World} {k : IntKind} {t : Int} (h : w.cell? ⟨g, 0, none⟩ = some (.int k t)) : leftT g w = 1000000000 - t.toNat := by unfold leftT; rw [h]
def LeadR (x y : Nat) (e : Ending) : Prop := ∃ S : Nat, 0 < S ∧ e = .returned (.tuple #[.int .i64 (x / S : Nat), .int .i64 (y / S : Nat)]) ∧ x / S ≤ 999999999999999999
set_option maxRecDepth 100000 in
set_option maxHeartbeats 1000000 in
theorem lead_n {w : World} {va vb : Value} {x y lo hi lo' hi' : Nat} (ha : IsN w lo hi va x) (hb : IsN w lo' hi' vb y) (hi1 : hi ≤ w.heap.size) (hi2 : hi' ≤ w.heap.size) (hle : y ≤ x) (h3 : 3 ≤ (lim x).length) (hx : (lim x).length ≤ 4294967296) :
    Calls Tryd.prog 135 #[va, vb] w fun e w' => LeadR x y e ∧ Below w.heap.size w w' := by
  have Ha := Lib.hid ha
  have Hb := Lib.hid hb
  obtain ⟨A, c, rfl, _, _, hA⟩ := ha
  obtain ⟨B, d, rfl, _, _, hB⟩ := hb
  obtain ⟨n, hn⟩ : ∃ n, n = (lim x).length := ⟨_, rfl⟩
  have hxp : Hid (x < pw n) := by rw [Hid, hn]; exact lim_lt x
  have htop1 : 1 ≤ (lim x).getD (n - 1) 0 := by
    rw [zfb]
    have h1 : pw (n - 1) ≤ x := lim_len_lt.1 (by omega)
    have h2 : x < pw (n - 1) * 1000000000 := by
      have := hxp.out
      rw [show n = (n - 1) + 1 from by omega, zby, Nat.mul_comm] at this
      exact this
    have h3 : x / pw (n - 1) < 1000000000 := by rw [Nat.div_lt_iff_lt_mul (zff _), Nat.mul_comm]; exact h2
    rw [Nat.mod_eq_of_lt h3]
    exact Nat.div_pos h1 (zff _)
  have htop9 := zep (zbh x) (n - 1)
  obtain ⟨top, ht⟩ : ∃ top, top = (lim x).getD (n - 1) 0 := ⟨_, rfl⟩
  obtain ⟨b, off, rfl, hb1, hb2, _⟩ := hA (zbm (j := n - 1) (by omega))
  have hcell : ∀ wr, Below w.heap.size w wr → wr.cell? ⟨b, off + (n - 1), none⟩ = some (.int .u32 (top : Int)) := by
    intro wr hbw
    rw [ht]
    exact (hA.below hbw hi1).at_ _ _ (cel_at (by omega))
  have Hcell := Lib.hid hcell
  have Hn := Lib.hid hn
  have Ht := Lib.hid ht
  rw [← hn] at h3 hx Ha ⊢
  rw [← ht] at htop1 htop9
  clear hcell hn ht hA
  have hbx := cell_one_new w (.int .i64 (n : Int)) 3 0 _ rfl
  have hby := cell_one_new (w.alloc (.cells #[.int .i64 (n : Int)] 3)) (.int .u64 1) 143 0 _ rfl
  rw [Addr.add_lit, Nat.add_zero] at hbx hby
  rw [World.size_alloc] at hby
  have hbx2 := (World.cell?_alloc_lt (w.alloc (.cells #[.int .i64 (n : Int)] 3)) (.cells #[.int .u64 1] 143) ⟨w.heap.size, 0, none⟩ (by rw [World.size_alloc]; show w.heap.size < _; omega)).trans hbx
  have hb0 := (((Below.refl w.heap.size w).alloc (Nat.le_refl _) (.cells #[.int .i64 (n : Int)] 3)).alloc (by rw [World.size_alloc]; omega) (.cells #[.int .u64 1] 143))
  have Hb0 := Lib.hid hb0
  have HC := Lib.hid (And.intro hbx2 hby)
  have hszn : (((w.alloc (.cells #[.int .i64 (n : Int)] 3)).alloc (.cells #[.int .u64 1] 143)).heap.size) = w.heap.size + 2 := by rw [World.size_alloc, World.size_alloc]
  have Hsz := Lib.hid hszn
  have hfz : ∀ wr : World, (∃ t, Row wr (w.heap.size + 1) 143 t) → wr.frozen? ⟨w.heap.size + 1, 0, none⟩ = false := fun wr ⟨t, h⟩ => h.frozen 0
  have hrow : Row ((w.alloc (.cells #[.int .i64 (n : Int)] 3)).alloc (.cells #[.int .u64 1] 143)) (w.heap.size + 1) 143 [.int .u64 1] := by
    have := heap_alloc_new (w.alloc (.cells #[.int .i64 (n : Int)] 3)) (.cells #[.int .u64 1] 143)
    rw [World.size_alloc] at this
    exact this
  have Hrow := Lib.hid hrow
  clear hbx hbx2 hby hb0 hszn hrow hfz
  go_enter Tryd.func135, Tryd.ntmps135
  go_wp2
  go_loopw [] (fun wr => ∃ T : Nat, Row wr (w.heap.size + 1) 143 [.int .u64 (T : Int)] ∧ wr.cell? ⟨w.heap.size, 0, none⟩ = some (.int .i64 (n : Int)) ∧ Below w.heap.size w wr ∧ Hid (wr.heap.size = w.heap.size + 2) ∧ 1 ≤ T ∧ T ≤ 1000000000 ∧ top * T ≤ 999999999 ∧ Hid (∃ t, t ≤ 9 ∧ T = 10 ^ t)) (fun wr => leftT (w.heap.size + 1) wr)
  case atStart => exact ⟨1, Hrow.out, HC.out.1, Hb0.out, Hsz.out, by omega, by omega, by omega, 0, by omega, rfl⟩
  case round =>
    obtain ⟨T, hr, hcn, hbw, hsz, hT0, hT9, htT, hrel⟩ := hrel
    have hct := hr.cell 0
    have hft := hr.frozen 0
    have hctop := Hcell.out wr hbw
    simp only [List.getElem?_cons_zero] at hct
    have hp0 : 0 ≤ (top : Int) * (T : Int) := Int.mul_nonneg (by omega) (by omega)
    have hp1 : (top : Int) * (T : Int) ≤ 999999999 := cast_mul_le htT
    rcases Int.lt_or_le ((top : Int) * T * 10) 1000000000 with hlt | hge
    · have hnx := tens_next htop1 (uncast_lt10 hlt) hrel.out
      have hT10 := hnx.1
      have hnew := Lib.hid hnx.2.1
      have htT2 := Lib.hid hnx.2.2
      clear hnx
      go_wp2
      go_quiet (fail)
      go_wp2
      go_roundw
      case rel =>
        refine ⟨T * 10, ?_, ?_, below_drewN hbw _ |>.setCell (by show w.heap.size ≤ w.heap.size + 1; omega) _, ?_, by omega, by omega, htT2.out, hnew.out⟩
        · have := (hr.drewN nq).set_ 0 (.int .u64 ((T : Int) * 10))
          rw [Int.natCast_mul]
          exact this
        · rw [World.cell?_setCell_other _ _ _ _ (by simp)]
          exact hcn
        · have := hsz.out
          simpa [Hid, World.setCell] using this
      case measure =>
        rw [leftT_eq hct, leftT_eq (k := .u64) (t := (T : Int) * 10) (World.cell?_setCell_same' _ _ _ (by show (wr.cell? _).isSome = true; rw [hct]; rfl))]
        omega
    · obtain ⟨S, hS0, ex, ey, hx18, hlx, hly⟩ := lead_end h3 hxp.out hle (by rw [← Ht.out]; exact htT) hrel.out
      have Hfin : Hid (LeadR x y (.returned (.tuple #[.int .i64 (dig18 x n T : Nat), .int .i64 (dig18 y n T : Nat)]))) := ⟨S, hS0, by rw [ex, ey], hx18⟩
      have Hlx := Lib.hid (cast_top hlx)
      have Hly := Lib.hid (cast_top hly)
      clear ex ey hx18 hlx hly hS0 hrel
      have Hw := Lib.hid (And.intro hcn (And.intro hct hbw))
      have hdec : decide ((top : Int) * (T : Int) * 10 < 1000000000) = false := decide_eq_false (by omega)
      go_wp2_with fail
      go_quiet (fail)
      clear hge
      go_wp2_with fail
      have hbq : Below w.heap.size w (wr.drewN nq) := below_drewN hbw nq
      have hszq : (wr.drewN nq).heap.size = w.heap.size + 2 := hsz.out
      have hnq : (wr.drewN nq).cell? ⟨w.heap.size, 0, none⟩ = some (.int .i64 (n : Int)) := hcn
      have htq : (wr.drewN nq).cell? ⟨w.heap.size + 1, 0, none⟩ = some (.int .u64 (T : Int)) := hct
      clear hcn hct hctop hft hr hbw hsz
      generalize wr.drewN nq = wq at *
      have hA1 := Lib.hid (Ha.out.below hbq hi1)
      have hB1 := Lib.hid (Hb.out.below hbq hi2)
      refine (lead1_n (n : Int) (T : Int) hA1.out (by omega) (by omega) (by omega) (by omega) (by omega) Hlx.out hnq htq (by omega) (by omega)).mono ?_
      rw [Int.toNat_natCast, Int.toNat_natCast]
      rintro e w2 ⟨rfl, hb2⟩
      have hbw2 := hbq.trans (hb2.mono hbq.size)
      have hn2 := (hb2.cell (p := ⟨w.heap.size, 0, none⟩) (by show w.heap.size < _; omega)).trans hnq
      have ht2 := (hb2.cell (p := ⟨w.heap.size + 1, 0, none⟩) (by show w.heap.size + 1 < _; omega)).trans htq
      have hsz2 := hb2.size
      clear hnq htq hA1
      go_wp2_with fail
      refine (lead1_n (n : Int) (T : Int) (hB1.out.below hb2 (by omega)) (by omega) (by omega) (by omega) (by omega) (by omega) Hly.out hn2 ht2 (by omega) (by omega)).mono ?_
      rw [Int.toNat_natCast, Int.toNat_natCast]
      rintro e w3 ⟨rfl, hb3⟩
      go_wp2_with fail
      go_ret2
      exact ⟨Hfin.out, hbw2.trans (hb3.mono hbw2.size)⟩
theorem mix_ring {V A B P X Y x y c c' r : Int} (h : V + c * P = X * A + Y * B) (hr : r = X * x + c + Y * y - c' * 1000000000) : V + P * r + c' * (1000000000 * P) = X * (A + P * x) + Y * (B + P * y) := by
  subst hr
  grind
theorem mix_step {a b L : List Nat} {k : Nat} {X Y x y c c' r : Int} (hk : k < L.length) (hx : x = (a.getD k 0 : Nat)) (hy : y = (b.getD k 0 : Nat)) (hr : r = X * x + c + Y * y - c' * 1000000000) (hr0 : 0 ≤ r)
    (h : (val (L.take k) : Int) + c * pw k = X * val (a.take k) + Y * val (b.take k)) : (val ((L.set k r.toNat).take (k + 1)) : Int) + c' * pw (k + 1) = X * val (a.take (k + 1)) + Y * val (b.take (k + 1)) := by
  have e := mix_ring h hr
  rw [zdp hk, val_take_succ' a, val_take_succ' b, zby]
  have e1 : ((r.toNat : Nat) : Int) = r := Int.toNat_of_nonneg hr0
  simp only [Int.natCast_add, Int.natCast_mul, e1, ← hx, ← hy]
  exact e
theorem mix_end {V P c : Int} {R : Nat} (hV0 : 0 ≤ V) (hV : V < P) (hR : (R : Int) < P) (h : V + c * P = R) : V = R := by
  have hP : 0 < P := by omega
  rcases Int.lt_trichotomy c 0 with hc | hc | hc
  · have := Int.mul_le_mul_of_nonneg_right (show c ≤ -1 by omega) (Int.le_of_lt hP)
    rw [Int.neg_mul, Int.one_mul] at this
    omega
  · subst hc; omega
  · have := Int.mul_le_mul_of_nonneg_right (show 1 ≤ c by omega) (Int.le_of_lt hP)
    rw [Int.one_mul] at this
    omega
theorem mul_fits {X x : Int} (hX0 : -999999999 ≤ X) (hX1 : X ≤ 999999999) (hx0 : 0 ≤ x) (hx1 : x ≤ 999999999) : -999999998000000001 ≤ X * x ∧ X * x ≤ 999999998000000001 ∧ (0 ≤ X → 0 ≤ X * x) ∧ (X ≤ 0 → X * x ≤ 0) := by
  rcases Int.lt_or_le X 0 with h | h
  · have h1 := zce (x := -X) (y := x) (by omega) (by omega) hx0 hx1
    rw [Int.neg_mul] at h1
    exact ⟨by omega, by omega, by omega, by omega⟩
  · have h1 := zce (x := X) (y := x) h hX1 hx0 hx1
    refine ⟨by omega, by omega, by omega, fun h2 => ?_⟩
    have : X = 0 := by omega
    subst this
    omega
theorem tdivL {t : Int} (h : t < 0) : ∃ q, t.tdiv 1000000000 = q ∧ ((q = t / 1000000000 ∧ t % 1000000000 = 0) ∨ (q = t / 1000000000 + 1 ∧ 0 < t % 1000000000)) := by
  refine ⟨_, rfl, ?_⟩
  rw [Int.tdiv_eq_ediv]
  split
  · rename_i hd
    rcases hd with hd | hd
    · omega
    · exact .inl ⟨by omega, Int.emod_eq_zero_of_dvd hd⟩
  · rename_i hd
    refine .inr ⟨by simp, ?_⟩
    rcases Int.lt_or_le 0 (t % 1000000000) with h1 | h1
    · exact h1
    · exact absurd (.inr (Int.dvd_of_emod_eq_zero (by omega))) hd
set_option maxRecDepth 100000 in
set_option maxHeartbeats 2000000 in
theorem mix_n {w : World} {va vb : Value} {A B R lo hi lo' hi' : Nat} (x y : Int) (ha : IsN w lo hi va A) (hb : IsN w lo' hi' vb B) (hi1 : hi ≤ w.heap.size) (hi2 : hi' ≤ w.heap.size) (hx0 : -999999999 ≤ x) (hx1 : x ≤ 999999999) (hy0 : -999999999 ≤ y) (hy1 : y ≤ 999999999)
    (hs : (0 ≤ x ∧ y ≤ 0) ∨ (x ≤ 0 ∧ 0 ≤ y)) (hR : (R : Int) = x * A + y * B) (hRA : R ≤ A) (hBA : B ≤ A) (hA9 : (lim A).length ≤ 4294967296) :
    Calls Tryd.prog 137 #[va, vb, .int .i64 x, .int .i64 y] w fun e w' => (∃ v, e = .returned v ∧ IsN w' w.heap.size w'.heap.size v R) ∧ Below w.heap.size w w' := by
  have hba := zas hBA
  have hRp : Hid (R < pw (lim A).length) := Nat.lt_of_le_of_lt hRA (lim_lt A)
  obtain ⟨AA, c, rfl, _, _, hAs⟩ := ha
  obtain ⟨BB, d, rfl, _, _, hBs⟩ := hb
  generalize hla : lim A = a at *
  generalize hlb : lim B = b at *
  have Hal : Hid (Lo a ∧ val a = A) := by rw [Hid, ← hla]; exact ⟨zbh A, zbf A⟩
  have Hbl : Hid (Lo b ∧ val b = B) := by rw [Hid, ← hlb]; exact ⟨zbh B, zbf B⟩
  have HR := Lib.hid hR
  clear hla hlb hR hRA hBA
  go_enter Tryd.func137, Tryd.ntmps137
  go_wp2_with (at_make; refine wp_make elN rfl _ _ rfl a.length rfl rfl rfl rfl (by omega) ?_; intro G w1 hG hrow hb1 hz1)
  go_loopw [10, 18] (fun cr i wr => ∃ (k : Nat) (L : List Nat) (cy : Int), k ≤ a.length ∧ i = .int .i64 (k : Int) ∧ cr = .int .i64 cy ∧ -1000000000 ≤ cy ∧ cy ≤ 1000000000 ∧ Row wr G 94 (cel .u32 L) ∧ Below G w wr ∧ Hid (wr.heap.size = G + 1) ∧
      Hid (L.length = a.length ∧ Lo L ∧ (val (L.take k) : Int) + cy * pw k = x * val (a.take k) + y * val (b.take k))) (fun _ i _ => a.length - (intOf i).toNat)
  case atStart => exact ⟨0, _, 0, Nat.zero_le _, rfl, rfl, by omega, by omega, hrow, hb1, hz1, by simp, zcq _, by simp [val]⟩
  case round =>
    obtain ⟨k, L, cy, hk, rfl, rfl, hcy0, hcy1, hr, hbw, hsz, hrel⟩ := hrel
    have hbw' : Below w.heap.size w wr := by have := hG.out; subst this; exact hbw
    rcases Nat.lt_or_ge k a.length with hlt | hge
    · obtain ⟨ba, oa, rfl, _, _, hca⟩ := (hAs.below hbw' hi1) (zbm (j := k) hlt)
      obtain ⟨u, hu, hu0, hu1, huc⟩ := zbl (j := k) Hal.out.1 hca hlt
      clear hca
      obtain ⟨z, hz, hz0, hzc⟩ := hr.num (i := k) (by rw [hrel.out.1]; exact hlt)
      have hzf := hr.frozen k
      have hkL : Hid (k < L.length) := by rw [hrel.out.1]; exact hlt
      obtain ⟨p0, p1, p2, p3⟩ := mul_fits hx0 hx1 hu0 hu1
      rcases Nat.lt_or_ge k b.length with hlb | hgb
      · obtain ⟨bb, ob, rfl, _, _, hcb⟩ := (hBs.below hbw' hi2) (zbm (j := k) hlb)
        obtain ⟨v, hv, hv0, hv1, hvc⟩ := zbl (j := k) Hbl.out.1 hcb hlb
        clear hcb
        obtain ⟨q0, q1, q2, q3⟩ := mul_fits hy0 hy1 hv0 hv1
        have s0 : -999999998000000001 ≤ x * u + y * v := by rcases hs with ⟨h1, h2⟩ | ⟨h1, h2⟩ <;> (have := p2; have := p3; have := q2; have := q3; omega)
        have s1 : x * u + y * v ≤ 999999998000000001 := by rcases hs with ⟨h1, h2⟩ | ⟨h1, h2⟩ <;> (have := p2; have := p3; have := q2; have := q3; omega)
        clear p2 p3 q2 q3
        rcases Int.lt_or_le (x * u + cy + y * v) 0 with hneg | hpos
        · obtain ⟨q, hq, ⟨q1, q2⟩ | ⟨q1, q2⟩⟩ := tdivL hneg
          · have hq0 : -1000000001 ≤ q := by omega
            have hq1 : q ≤ 0 := by omega
            have hq2 : x * u + cy + y * v - q * 1000000000 = 0 := by omega
            go_wp2
            go_roundw
            case rel =>
              refine ⟨k + 1, L.set k ((x * u + cy + y * v) % 1000000000).toNat, (x * u + cy + y * v) / 1000000000, by omega, by go_num, int_eq (by omega), by omega, by omega, ?_, hbw.setCell (Nat.le_refl _) _, by have := hsz.out; simpa [Hid, World.setCell] using this, by rw [List.length_set]; exact hrel.out.1, zcc hrel.out.2.1 (by omega), mix_step (x := u) (y := v) (c := cy) (c' := (x * u + cy + y * v) / 1000000000) (r := (x * u + cy + y * v) % 1000000000) hkL.out hu.out hv.out (by omega) (by omega) hrel.out.2.2⟩
              exact hr.setNum k _ _ (by omega)
            case measure => simp [intOf]; omega
          · have hq0 : -1000000001 ≤ q := by omega
            have hq1 : q ≤ 0 := by omega
            have hq2 : x * u + cy + y * v - q * 1000000000 < 0 := by omega
            have hq3 : -1000000000 < x * u + cy + y * v - q * 1000000000 := by omega
            go_wp2
            go_roundw
            case rel =>
              refine ⟨k + 1, L.set k ((x * u + cy + y * v) % 1000000000).toNat, (x * u + cy + y * v) / 1000000000, by omega, by go_num, int_eq (by omega), by omega, by omega, ?_, hbw.setCell (Nat.le_refl _) _, by have := hsz.out; simpa [Hid, World.setCell] using this, by rw [List.length_set]; exact hrel.out.1, zcc hrel.out.2.1 (by omega), mix_step (x := u) (y := v) (c := cy) (c' := (x * u + cy + y * v) / 1000000000) (r := (x * u + cy + y * v) % 1000000000) hkL.out hu.out hv.out (by omega) (by omega) hrel.out.2.2⟩
              exact hr.setNum k _ _ (by omega)
            case measure => simp [intOf]; omega
        · go_wp2
          go_roundw
          case rel =>
            refine ⟨k + 1, L.set k ((x * u + cy + y * v) % 1000000000).toNat, (x * u + cy + y * v) / 1000000000, by omega, by go_num, int_eq (by omega), by omega, by omega, ?_, hbw.setCell (Nat.le_refl _) _, by have := hsz.out; simpa [Hid, World.setCell] using this, by rw [List.length_set]; exact hrel.out.1, zcc hrel.out.2.1 (by omega), mix_step (x := u) (y := v) (c := cy) (c' := (x * u + cy + y * v) / 1000000000) (r := (x * u + cy + y * v) % 1000000000) hkL.out hu.out hv.out (by omega) (by omega) hrel.out.2.2⟩
            exact hr.setNum k _ _ (by omega)
          case measure => simp [intOf]; omega
      · clear p2 p3
        rcases Int.lt_or_le (x * u + cy) 0 with hneg | hpos
        · obtain ⟨q, hq, ⟨q1, q2⟩ | ⟨q1, q2⟩⟩ := tdivL hneg
          · have hq0 : -1000000001 ≤ q := by omega
            have hq1 : q ≤ 0 := by omega
            have hq2 : x * u + cy - q * 1000000000 = 0 := by omega
            go_wp2
            go_roundw
            case rel =>
              refine ⟨k + 1, L.set k ((x * u + cy) % 1000000000).toNat, (x * u + cy) / 1000000000, by omega, by go_num, int_eq (by omega), by omega, by omega, ?_, hbw.setCell (Nat.le_refl _) _, by have := hsz.out; simpa [Hid, World.setCell] using this, by rw [List.length_set]; exact hrel.out.1, zcc hrel.out.2.1 (by omega), mix_step (x := u) (y := 0) (c := cy) (c' := (x * u + cy) / 1000000000) (r := (x * u + cy) % 1000000000) hkL.out hu.out (by rw [zck hgb]; rfl) (by omega) (by omega) hrel.out.2.2⟩
              exact hr.setNum k _ _ (by omega)
            case measure => simp [intOf]; omega
          · have hq0 : -1000000001 ≤ q := by omega
            have hq1 : q ≤ 0 := by omega
            have hq2 : x * u + cy - q * 1000000000 < 0 := by omega
            have hq3 : -1000000000 < x * u + cy - q * 1000000000 := by omega
            go_wp2
            go_roundw
            case rel =>
              refine ⟨k + 1, L.set k ((x * u + cy) % 1000000000).toNat, (x * u + cy) / 1000000000, by omega, by go_num, int_eq (by omega), by omega, by omega, ?_, hbw.setCell (Nat.le_refl _) _, by have := hsz.out; simpa [Hid, World.setCell] using this, by rw [List.length_set]; exact hrel.out.1, zcc hrel.out.2.1 (by omega), mix_step (x := u) (y := 0) (c := cy) (c' := (x * u + cy) / 1000000000) (r := (x * u + cy) % 1000000000) hkL.out hu.out (by rw [zck hgb]; rfl) (by omega) (by omega) hrel.out.2.2⟩
              exact hr.setNum k _ _ (by omega)
            case measure => simp [intOf]; omega
        · go_wp2
          go_roundw
          case rel =>
            refine ⟨k + 1, L.set k ((x * u + cy) % 1000000000).toNat, (x * u + cy) / 1000000000, by omega, by go_num, int_eq (by omega), by omega, by omega, ?_, hbw.setCell (Nat.le_refl _) _, by have := hsz.out; simpa [Hid, World.setCell] using this, by rw [List.length_set]; exact hrel.out.1, zcc hrel.out.2.1 (by omega), mix_step (x := u) (y := 0) (c := cy) (c' := (x * u + cy) / 1000000000) (r := (x * u + cy) % 1000000000) hkL.out hu.out (by rw [zck hgb]; rfl) (by omega) (by omega) hrel.out.2.2⟩
            exact hr.setNum k _ _ (by omega)
          case measure => simp [intOf]; omega
    · obtain rfl : k = a.length := by omega
      have hV : Hid (val L = R) := by
        have h := hrel.out.2.2
        rw [zav (Nat.le_of_eq hrel.out.1), zav (Nat.le_refl _), zav hba, Hal.out.2, Hbl.out.2, ← HR.out] at h
        have h1 := zea hrel.out.2.1
        rw [hrel.out.1] at h1
        have h2 := hRp.out
        exact Int.ofNat_inj.1 (mix_end (by omega) (by omega) (by omega) h)
      have H1 : Hid (Row wr G 94 (cel .u32 L) ∧ L.length = a.length ∧ Lo L) := ⟨hr, hrel.out.1, hrel.out.2.1⟩
      clear hr hrel
      go_wp2_with fail
      rw [← H1.out.2.1]
      refine (trim_list _ _ L wr G (G + 1) H1.out.2.2 (Nat.le_refl _) (by have := H1.out.2.1; unfold maxLen; omega) H1.out.1.sv).mono ?_
      rintro e w2 ⟨⟨v, rfl, hv⟩, rfl⟩
      go_wp2_with fail
      go_ret
      refine ⟨⟨_, rfl, ?_⟩, hbw'⟩
      rw [← hV.out]
      exact hv.wide (by have := hG.out; omega) (by have := hsz.out; omega)
end Go.Proofs.YtjkgdggkgljdoaaDoor
