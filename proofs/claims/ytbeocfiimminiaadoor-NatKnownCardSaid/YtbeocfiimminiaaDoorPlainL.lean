/-
  Plain facts on Lehmer's steps: what the first digits of two numbers decide.
-/
import Derived.Test.YtbeocfiimminiaaDoorPlain
namespace Go.Proofs.YtbeocfiimminiaaDoor

theorem le_mul {u v k : Int} (hk : 0 ≤ k) (h : u ≤ v) : k * u ≤ k * v := Int.mul_le_mul_of_nonneg_left h hk

/-- Where the steps stand: the factors w, x, y, z of the numbers A0, B0, whose first digits are a0, b0; a, b: the digits behind the steps. -/
structure LI (A0 B0 : Nat) (a0 b0 a b w x y z : Int) : Prop where
  ea : a = w * a0 + x * b0
  eb : b = y * a0 + z * b0
  pat : (1 ≤ w ∧ x ≤ 0 ∧ y ≤ 0 ∧ 1 ≤ z ∧ w * z - x * y = 1) ∨ (w ≤ 0 ∧ 1 ≤ x ∧ 1 ≤ y ∧ z ≤ -1 ∧ w * z - x * y = -1)
  aw : 0 ≤ a + w
  ax : 0 ≤ a + x
  by_ : 0 ≤ b + y
  bz : 0 ≤ b + z
  num : ∃ A B : Nat, (A : Int) = w * A0 + x * B0 ∧ (B : Int) = y * A0 + z * B0 ∧ B ≤ A ∧ Nat.gcd A B = Nat.gcd A0 B0 ∧ (x ≠ 0 → B < A ∧ A ≤ B0) ∧ (x = 0 → A = A0 ∧ B = B0)

theorem LI.start {A0 B0 : Nat} {a0 b0 : Int} (ha : 0 ≤ a0) (hb : 0 ≤ b0) (h : B0 ≤ A0) : LI A0 B0 a0 b0 a0 b0 1 0 0 1 :=
  ⟨by omega, by omega, .inl ⟨by omega, by omega, by omega, by omega, by omega⟩, by omega, by omega, by omega, by omega, ⟨A0, B0, by omega, by omega, h, rfl, fun h => absurd rfl h, fun _ => ⟨rfl, rfl⟩⟩⟩

section
variable {A0 B0 : Nat} {a0 b0 a b w x y z : Int}

theorem LI.inv (h : LI A0 B0 a0 b0 a b w x y z) : 0 ≤ a ∧ 0 ≤ b ∧
    ((1 ≤ w ∧ x ≤ 0 ∧ y ≤ 0 ∧ 1 ≤ z ∧ a0 = z * a - x * b ∧ b0 = w * b - y * a) ∨ (w ≤ 0 ∧ 1 ≤ x ∧ 1 ≤ y ∧ z ≤ 0 ∧ a0 = x * b - z * a ∧ b0 = y * a - w * b)) := by
  have h1 := h.aw; have h2 := h.ax; have h3 := h.by_; have h4 := h.bz; have e1 := h.ea; have e2 := h.eb
  rcases h.pat with ⟨p1, p2, p3, p4, p5⟩ | ⟨p1, p2, p3, p4, p5⟩
  · refine ⟨by omega, by omega, .inl ⟨p1, p2, p3, p4, ?_, ?_⟩⟩
    · have : z * a - x * b = (w * z - x * y) * a0 := by rw [e1, e2]; grind
      rw [this, p5]; omega
    · have : w * b - y * a = (w * z - x * y) * b0 := by rw [e1, e2]; grind
      rw [this, p5]; omega
  · refine ⟨by omega, by omega, .inr ⟨p1, p2, p3, by omega, ?_, ?_⟩⟩
    · have : x * b - z * a = -(w * z - x * y) * a0 := by rw [e1, e2]; grind
      rw [this, p5]; omega
    · have : y * a - w * b = -(w * z - x * y) * b0 := by rw [e1, e2]; grind
      rw [this, p5]; omega

theorem LI.bounds (h : LI A0 B0 a0 b0 a b w x y z) (ha0 : a0 ≤ 999999999999999999) (hb0 : b0 ≤ 999999999999999999) : 0 ≤ a ∧ a ≤ 999999999999999999 ∧ 0 ≤ b ∧ b ≤ 999999999999999999 := by
  obtain ⟨ha, hb, hp⟩ := h.inv
  rcases hp with ⟨p1, p2, p3, p4, e1, e2⟩ | ⟨p1, p2, p3, p4, e1, e2⟩
  · have h1 := Int.mul_le_mul_of_nonneg_right p4 ha
    have h2 := Int.mul_le_mul_of_nonneg_right p1 hb
    have h3 := Int.mul_nonneg (show 0 ≤ -x by omega) hb
    have h4 := Int.mul_nonneg (show 0 ≤ -y by omega) ha
    rw [Int.neg_mul] at h3 h4
    omega
  · have h1 := Int.mul_le_mul_of_nonneg_right p2 hb
    have h2 := Int.mul_le_mul_of_nonneg_right p3 ha
    have h3 := Int.mul_nonneg (show 0 ≤ -z by omega) ha
    have h4 := Int.mul_nonneg (show 0 ≤ -w by omega) hb
    rw [Int.neg_mul] at h3 h4
    omega

/-- The products of a quotient fit into a word. -/
theorem LI.fits (h : LI A0 B0 a0 b0 a b w x y z) (ha0 : a0 ≤ 999999999999999999) (hb0 : b0 ≤ 999999999999999999) (hw : -999999999 ≤ w ∧ w ≤ 999999999) (hx : -999999999 ≤ x ∧ x ≤ 999999999) (hy : -999999999 ≤ y ∧ y ≤ 999999999) (hz : -999999999 ≤ z ∧ z ≤ 999999999)
    {q : Int} (hq0 : 0 ≤ q) (hq1 : q ≤ a + w) (hq2 : q ≤ a + x) (hq3 : q * (b + y) ≤ a + w) :
    -2000000000000000000 ≤ q * y ∧ q * y ≤ 2000000000000000000 ∧ -2000000000000000000 ≤ q * z ∧ q * z ≤ 2000000000000000000 ∧ 0 ≤ q * b ∧ q * b ≤ 4000000000000000000 := by
  obtain ⟨hab, _⟩ := h.bounds ha0 hb0
  have hbnd := h.bounds ha0 hb0
  obtain ⟨ha, hb, hp⟩ := h.inv
  have hqb := Int.mul_nonneg hq0 hb
  rw [Int.mul_add] at hq3
  have lim : ∀ {u v : Int}, 0 ≤ u → u ≤ 999999999 → 0 ≤ v → v ≤ 999999999 → u * v ≤ 999999998000000001 := by
    intro u v h1 h2 h3 h4
    have := Int.mul_le_mul h2 h4 h3 (by omega : (0 : Int) ≤ 999999999)
    omega
  rcases hp with ⟨p1, p2, p3, p4, e1, e2⟩ | ⟨p1, p2, p3, p4, e1, e2⟩
  · -- y ≤ 0, 1 ≤ z
    have h1 := Int.mul_le_mul_of_nonneg_right hq1 (show 0 ≤ -y by omega)
    have h2 := Int.mul_nonneg hq0 (show 0 ≤ -y by omega)
    have h3 := Int.mul_le_mul_of_nonneg_right hq2 (show 0 ≤ z by omega)
    have h4 := Int.mul_nonneg hq0 (show 0 ≤ z by omega)
    have h5 := lim (u := w) (v := -y) (by omega) (by omega) (by omega) (by omega)
    have h6 := Int.mul_nonneg (show 0 ≤ w by omega) hb
    have h7 := Int.mul_nonneg (show 0 ≤ -x by omega) hb
    have h8 := Int.mul_nonneg (show 0 ≤ -x by omega) (show 0 ≤ z by omega)
    simp only [Int.add_mul, Int.mul_neg, Int.neg_mul] at h1 h2 h3 h5 h7 h8
    rw [Int.mul_comm a y] at h1
    rw [Int.mul_comm a z] at h3
    omega
  · -- 1 ≤ y, z ≤ 0
    have h1 := Int.mul_le_mul_of_nonneg_right hq1 (show 0 ≤ y by omega)
    have h2 := Int.mul_nonneg hq0 (show 0 ≤ y by omega)
    have h3 := Int.mul_le_mul_of_nonneg_right hq2 (show 0 ≤ -z by omega)
    have h4 := Int.mul_nonneg hq0 (show 0 ≤ -z by omega)
    have h5 := lim (u := x) (v := -z) (by omega) (by omega) (by omega) (by omega)
    have h6 := Int.mul_nonneg (show 0 ≤ x by omega) hb
    have h7 := Int.mul_nonneg (show 0 ≤ -w by omega) hb
    have h8 := Int.mul_nonneg (show 0 ≤ -w by omega) (show 0 ≤ y by omega)
    simp only [Int.add_mul, Int.mul_neg, Int.neg_mul] at h1 h3 h4 h5 h7 h8
    rw [Int.mul_comm a y] at h1
    rw [Int.mul_comm a z] at h3
    omega

/-- The first digits decide the quotient. -/
theorem LI.exact (h : LI A0 B0 a0 b0 a b w x y z) {S : Nat} (hS : 0 < S) (hA : a0 = (A0 / S : Nat)) (hB : b0 = (B0 / S : Nat)) {q : Int} (hy : 0 < b + y) (hz : 0 < b + z) (hq1 : q = (a + w) / (b + y)) (hq2 : q = (a + x) / (b + z))
    {A B : Nat} (eA : (A : Int) = w * A0 + x * B0) (eB : (B : Int) = y * A0 + z * B0) : 0 < B ∧ 0 ≤ q ∧ q * B ≤ A ∧ (A : Int) < (q + 1) * B := by
  have hq0 : 0 ≤ q := by rw [hq1]; exact Int.ediv_nonneg h.aw (by omega)
  have f1 : q * (b + y) ≤ a + w := by rw [hq1]; exact Int.ediv_mul_le _ (by omega)
  have f2 : q * (b + z) ≤ a + x := by rw [hq2]; exact Int.ediv_mul_le _ (by omega)
  have f3 : a + w < (q + 1) * (b + y) := by rw [hq1]; exact Int.lt_ediv_add_one_mul_self _ (by omega)
  have f4 : a + x < (q + 1) * (b + z) := by rw [hq2]; exact Int.lt_ediv_add_one_mul_self _ (by omega)
  have hS' : (0 : Int) < S := by omega
  have lA : a0 * S ≤ A0 := by rw [hA]; have := Nat.div_mul_le_self A0 S; exact_mod_cast this
  have lB : b0 * S ≤ B0 := by rw [hB]; have := Nat.div_mul_le_self B0 S; exact_mod_cast this
  have uA : (A0 : Int) < (a0 + 1) * S := by rw [hA]; have := Nat.lt_div_mul_add (a := A0) hS; rw [Int.add_mul, Int.one_mul]; exact_mod_cast this
  have uB : (B0 : Int) < (b0 + 1) * S := by rw [hB]; have := Nat.lt_div_mul_add (a := B0) hS; rw [Int.add_mul, Int.one_mul]; exact_mod_cast this
  have key : ((a + x) * S ≤ A ∧ (A : Int) < (a + w) * S ∧ (b + y) * S ≤ B ∧ (B : Int) < (b + z) * S) ∨ ((a + w) * S ≤ A ∧ (A : Int) < (a + x) * S ∧ (b + z) * S ≤ B ∧ (B : Int) < (b + y) * S) := by
    rw [eA, eB, h.ea, h.eb]
    rcases h.pat with ⟨p1, p2, p3, p4, _⟩ | ⟨p1, p2, p3, p4, _⟩
    · left
      have g1 := le_mul (show 0 ≤ w by omega) lA
      have g2 := le_mul (show 0 ≤ -x by omega) (Int.le_of_lt uB)
      have g3 := le_mul (show 0 ≤ w - 1 by omega) (Int.le_of_lt uA)
      have g4 := le_mul (show 0 ≤ -x by omega) lB
      have g5 := le_mul (show 0 ≤ -y by omega) (Int.le_of_lt uA)
      have g6 := le_mul (show 0 ≤ z by omega) lB
      have g7 := le_mul (show 0 ≤ z - 1 by omega) (Int.le_of_lt uB)
      have g8 := le_mul (show 0 ≤ -y by omega) lA
      refine ⟨by grind, by grind, by grind, by grind⟩
    · right
      have g1 := le_mul (show 0 ≤ -w by omega) (Int.le_of_lt uA)
      have g2 := le_mul (show 0 ≤ x by omega) lB
      have g3 := le_mul (show 0 ≤ -w by omega) lA
      have g4 := le_mul (show 0 ≤ x - 1 by omega) (Int.le_of_lt uB)
      have g5 := le_mul (show 0 ≤ y by omega) lA
      have g6 := le_mul (show 0 ≤ -z by omega) (Int.le_of_lt uB)
      have g7 := le_mul (show 0 ≤ y - 1 by omega) (Int.le_of_lt uA)
      have g8 := le_mul (show 0 ≤ -z by omega) lB
      refine ⟨by grind, by grind, by grind, by grind⟩
  rcases key with ⟨k1, k2, k3, k4⟩ | ⟨k1, k2, k3, k4⟩
  · have hBp : (0 : Int) < B := Int.lt_of_lt_of_le (Int.mul_pos hy hS') k3
    have m1 := le_mul hq0 (Int.le_of_lt k4)
    have m2 := Int.mul_le_mul_of_nonneg_right f2 (Int.le_of_lt hS')
    have m3 := le_mul (show 0 ≤ q + 1 by omega) k3
    have m4 := Int.mul_le_mul_of_nonneg_right (Int.le_of_lt f3) (Int.le_of_lt hS')
    refine ⟨by omega, hq0, by grind, by grind⟩
  · have hBp : (0 : Int) < B := Int.lt_of_lt_of_le (Int.mul_pos hz hS') k3
    have m1 := le_mul hq0 (Int.le_of_lt k4)
    have m2 := Int.mul_le_mul_of_nonneg_right f1 (Int.le_of_lt hS')
    have m3 := le_mul (show 0 ≤ q + 1 by omega) k3
    have m4 := Int.mul_le_mul_of_nonneg_right (Int.le_of_lt f4) (Int.le_of_lt hS')
    refine ⟨by omega, hq0, by grind, by grind⟩

/-- A step. -/
theorem LI.step (h : LI A0 B0 a0 b0 a b w x y z) {S : Nat} (hS : 0 < S) (hA : a0 = (A0 / S : Nat)) (hB : b0 = (B0 / S : Nat)) {q : Int} (hy : 0 < b + y) (hz : 0 < b + z) (hq1 : q = (a + w) / (b + y)) (hq2 : q = (a + x) / (b + z)) :
    LI A0 B0 a0 b0 b (a - q * b) y z (w - q * y) (x - q * z) := by
  obtain ⟨A, B, eA, eB, hle, hg, hx1, hx0⟩ := h.num
  obtain ⟨hBp, hq0, k1, k2⟩ := h.exact hS hA hB hy hz hq1 hq2 eA eB
  have hq : 1 ≤ q := by
    rcases Int.lt_or_le q 1 with h0 | h0
    · have : q = 0 := by omega
      subst this
      omega
    · exact h0
  obtain ⟨qn, rfl⟩ := Int.eq_ofNat_of_zero_le hq0
  have k1' : qn * B ≤ A := by exact_mod_cast k1
  have k2' : A < (qn + 1) * B := by exact_mod_cast k2
  have f1 : (qn : Int) * (b + y) ≤ a + w := by rw [hq1]; exact Int.ediv_mul_le _ (by omega)
  have f2 : (qn : Int) * (b + z) ≤ a + x := by rw [hq2]; exact Int.ediv_mul_le _ (by omega)
  have hqn : A / B = qn := by
    apply Nat.div_eq_of_lt_le
    · exact k1'
    · exact k2'
  have hmod : A % B = A - qn * B := by rw [Nat.mod_eq_sub_mul_div, hqn, Nat.mul_comm]
  refine ⟨h.eb, ?_, ?_, by omega, by omega, ?_, ?_, ⟨B, A % B, eB, ?_, Nat.le_of_lt (Nat.mod_lt _ hBp), ?_, fun _ => ⟨Nat.mod_lt _ hBp, ?_⟩, fun h0 => ?_⟩⟩
  · rw [h.ea, h.eb]; grind
  · rcases h.pat with ⟨p1, p2, p3, p4, p5⟩ | ⟨p1, p2, p3, p4, p5⟩
    · have h1 := Int.mul_nonneg hq0 (show 0 ≤ -y by omega)
      have h2 := Int.mul_le_mul_of_nonneg_right hq (show 0 ≤ z by omega)
      rw [Int.mul_neg] at h1
      exact .inr ⟨p3, p4, by omega, by omega, by grind⟩
    · have h1 := Int.mul_nonneg hq0 (show 0 ≤ -z by omega)
      have h2 := Int.mul_le_mul_of_nonneg_right hq (show 0 ≤ y by omega)
      rw [Int.mul_neg] at h1
      exact .inl ⟨p3, by omega, by omega, by omega, by grind⟩
  · rw [Int.mul_add] at f1; omega
  · rw [Int.mul_add] at f2; omega
  · rw [hmod, Int.ofNat_sub k1', Int.natCast_mul, eA, eB]; grind
  · rw [← hg, Nat.gcd_comm A B, Nat.gcd_rec B A, Nat.gcd_comm]
  · rcases Int.lt_trichotomy x 0 with h1 | h1 | h1
    · have := hx1 (by omega); omega
    · have := hx0 h1; omega
    · have := hx1 (by omega); omega
  · rcases h.pat with ⟨p1, p2, p3, p4, p5⟩ | ⟨p1, p2, p3, p4, p5⟩ <;> omega
end
end Go.Proofs.YtbeocfiimminiaaDoor
