/-
  Plain facts on sums of lists of limbs: the steps of an addition, a list whose last limb counts.
-/
import Derived.Test.YtbeocfiimminiaaDoorPlain2
namespace Go.Proofs.YtbeocfiimminiaaDoor

/-- A list that is no longer than its number is that number's limbs. -/
theorem lim_of_len {l : List Nat} (h : Lo l) (hl : l = [] ∨ pw (l.length - 1) ≤ val l) : lim (val l) = l := by
  rcases hl with rfl | hl
  · rw [val_nil, lim_zero]
  · apply lim_val_of h
    rcases Nat.eq_zero_or_pos l.length with h0 | h0
    · rw [List.eq_nil_of_length_eq_zero h0]; decide
    · intro h1
      rw [List.getLastD_eq_getLast?, List.getLast?_eq_getElem?, List.getElem?_eq_getElem (by omega)] at h1
      have h3 : l.getD (l.length - 1) 0 = 0 := by
        rw [List.getD_eq_getElem?_getD, List.getElem?_eq_getElem (by omega)]
        exact h1
      have h2 := val_take_succ' l (l.length - 1)
      rw [show l.length - 1 + 1 = l.length from by omega, List.take_length, h3, Nat.mul_zero, Nat.add_zero] at h2
      have h4 := val_lt (lo_take h (l.length - 1))
      rw [List.length_take, Nat.min_eq_left (by omega)] at h4
      omega

theorem plus_ring {V A B P x y c c' r : Int} (h : V + c * P = A + B) (hr : r = c + x + y - c' * 1000000000) : V + P * r + c' * (1000000000 * P) = A + P * x + (B + P * y) := by
  subst hr
  grind

/-- One limb of a sum that is appended. -/
theorem plus_step {a b L : List Nat} {k : Nat} {x y c c' r : Int} (hL : L.length = k) (hx : x = (a.getD k 0 : Nat)) (hy : y = (b.getD k 0 : Nat)) (hr : r = c + x + y - c' * 1000000000) (hr0 : 0 ≤ r)
    (h : (val L : Int) + c * pw k = val (a.take k) + val (b.take k)) : (val (L ++ [r.toNat]) : Int) + c' * pw (k + 1) = val (a.take (k + 1)) + val (b.take (k + 1)) := by
  have e := plus_ring (x := x) (y := y) (c' := c') h hr
  rw [val_append, val_take_succ' a, val_take_succ' b, hL, val_cons, val_nil, Nat.mul_zero, Nat.add_zero, pw_succ]
  have e1 : ((r.toNat : Nat) : Int) = r := Int.toNat_of_nonneg hr0
  simp only [Int.natCast_add, Int.natCast_mul, e1, ← hx, ← hy]
  exact e

theorem lo_snoc {L : List Nat} {r : Nat} (h : Lo L) (hr : r < 1000000000) : Lo (L ++ [r]) := lo_append.2 ⟨h, by intro x hx; simp at hx; omega⟩

/-- A number that is not 0 reaches its last limb. -/
theorem pw_le_of_len {x k : Nat} (h : k < (lim x).length) : pw k ≤ x := lim_len_lt.1 h

theorem getD_lim_end {x k : Nat} (h : (lim x).length ≤ k) : (lim x).getD k 0 = 0 := getD_end h

theorem minus_ring {V A B P x y bw bw' r : Int} (h : V = A - B + bw * P) (hr : r = x - y - bw + 1000000000 * bw') : V + P * r = A + P * x - (B + P * y) + bw' * (1000000000 * P) := by
  subst hr
  subst h
  grind
/-- One limb of a difference that is appended. -/
theorem minus_step {a b L : List Nat} {k : Nat} {x y bw bw' r : Int} (hL : L.length = k) (hx : x = (a.getD k 0 : Nat)) (hy : y = (b.getD k 0 : Nat)) (hr : r = x - y - bw + 1000000000 * bw') (hr0 : 0 ≤ r)
    (h : (val L : Int) = val (a.take k) - val (b.take k) + bw * pw k) : (val (L ++ [r.toNat]) : Int) = val (a.take (k + 1)) - val (b.take (k + 1)) + bw' * pw (k + 1) := by
  have e := minus_ring (x := x) (y := y) (bw' := bw') h hr
  rw [val_append, val_take_succ' a, val_take_succ' b, hL, val_cons, val_nil, Nat.mul_zero, Nat.add_zero, pw_succ]
  have e1 : ((r.toNat : Nat) : Int) = r := Int.toNat_of_nonneg hr0
  simp only [Int.natCast_add, Int.natCast_mul, e1, ← hx, ← hy]
  exact e
end Go.Proofs.YtbeocfiimminiaaDoor
