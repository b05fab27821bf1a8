/-
  Plain facts on the addition of two lists of limbs, pair by pair.
-/
import Derived.Test.YtbeocfiimminiaaDoorPlainS
namespace Go.Proofs.YtbeocfiimminiaaDoor

/-- The list of the first limbs, as far as k. -/
theorem val_range (a : List Nat) (k : Nat) : val ((List.range k).map fun j => a.getD j 0) = val (a.take k) := by
  induction k with
  | zero => simp [val]
  | succ k ih =>
    rw [List.range_succ, List.map_append, val_append, ih, val_take_succ']
    simp [val]

/-- Where an addition stands: the limbs so far, the carry. -/
def AddAt (p : List (Nat × Nat)) (L : List Nat) (q : Int) : Prop :=
  L.length = p.length ∧ Lo L ∧ (val L : Int) + q * pw p.length = val (p.map Prod.fst) + val (p.map Prod.snd)
theorem AddAt.start : AddAt [] [] 0 := ⟨rfl, lo_nil, by simp [val]⟩
theorem AddAt.step {p : List (Nat × Nat)} {L : List Nat} {q : Int} {x y : Nat} {q' r : Int} (h : AddAt p L q) (hr : r = q + x + y - q' * 1000000000) (hr0 : 0 ≤ r) (hr1 : r < 1000000000) : AddAt (p ++ [(x, y)]) (L ++ [r.toNat]) q' := by
  obtain ⟨h1, h2, h3⟩ := h
  refine ⟨by simp [h1], lo_snoc h2 (by omega), ?_⟩
  have e := plus_ring (x := (x : Int)) (y := (y : Int)) (c' := q') h3 hr
  simp only [List.map_append, List.map_cons, List.map_nil, val_append, val_cons, val_nil, Nat.mul_zero, Nat.add_zero, List.length_map, List.length_append, List.length_cons, List.length_nil, pw_succ, h1, Nat.zero_add]
  have e1 : ((r.toNat : Nat) : Int) = r := Int.toNat_of_nonneg hr0
  simp only [Int.natCast_add, Int.natCast_mul, e1]
  exact e
/-- The end of an addition. -/
theorem AddAt.done {x y M : Nat} {p : List (Nat × Nat)} {L : List Nat} {q : Int} (h : AddAt p L q) (hp : p = (List.range M).map fun j => ((lim x).getD j 0, (lim y).getD j 0)) (hM : ((lim y).length ≤ (lim x).length ∧ M = (lim x).length) ∨ ((lim x).length < (lim y).length ∧ M = (lim y).length)) :
    L.length = M ∧ (q = 0 → lim (x + y) = L) ∧ (q = 1 → lim (x + y) = L ++ [1]) := by
  obtain ⟨h1, h2, h3⟩ := h
  have hpl : p.length = M := by rw [hp]; simp
  have e1 : p.map Prod.fst = (List.range M).map fun j => (lim x).getD j 0 := by rw [hp, List.map_map]; rfl
  have e2 : p.map Prod.snd = (List.range M).map fun j => (lim y).getD j 0 := by rw [hp, List.map_map]; rfl
  rw [e1, e2, val_range, val_range, val_take_all (by omega), val_take_all (by omega), val_lim, val_lim, hpl] at h3
  have hb : ∀ k, k < M → pw k ≤ x + y := by
    intro k hk
    rcases hM with ⟨_, h⟩ | ⟨_, h⟩
    · have := pw_le_of_len (x := x) (k := k) (by omega); omega
    · have := pw_le_of_len (x := y) (k := k) (by omega); omega
  refine ⟨by omega, ?_, ?_⟩
  · rintro rfl
    have hv : val L = x + y := by omega
    rw [← hv]
    apply lim_of_len h2
    rcases Nat.eq_zero_or_pos M with h0 | h0
    · exact .inl (List.eq_nil_of_length_eq_zero (by omega))
    · exact .inr (by rw [h1, hpl, hv]; exact hb (M - 1) (by omega))
  · rintro rfl
    have hv : val (L ++ [1]) = x + y := by rw [val_append, h1, hpl, val_cons, val_nil]; omega
    rw [← hv]
    apply lim_of_len (lo_snoc h2 (by omega))
    refine .inr ?_
    rw [hv]
    simp only [List.length_append, List.length_cons, List.length_nil, h1, hpl, Nat.zero_add, Nat.add_sub_cancel]
    omega
end Go.Proofs.YtbeocfiimminiaaDoor
