/-
  Plain facts on texts that are read as numbers.
-/
import Derived.Test.YtbeocfiimminiaaDoorPlainT
namespace Go.Proofs.YtbeocfiimminiaaDoor

/-- Byte k of a text as a number. -/
def byt (s : ByteArray) (k : Nat) : Nat := if h : k < s.size then (s[k]'h).toNat else 0
theorem byt_lt (s : ByteArray) (k : Nat) : byt s k < 256 := by
  unfold byt
  split
  · exact (s[k]).toNat_lt
  · omega
theorem byt_at {s : ByteArray} {k : Nat} (h : k < s.size) : (s[k]'h).toNat = byt s k := by unfold byt; rw [dif_pos h]
theorem byt_list {s : ByteArray} {k : Nat} (h : k < s.size) : (s.data.toList.getD k 0).toNat = byt s k := by
  rw [← byt_at h, List.getD_eq_getElem?_getD, List.getElem?_eq_getElem (by simpa using h)]
  rfl

/-- The first k bytes are digits. -/
def Good (s : ByteArray) (k : Nat) : Prop := ∀ i, i < k → 48 ≤ byt s i ∧ byt s i ≤ 57
/-- The number that n digits from a on are. -/
def nv (s : ByteArray) (a : Nat) : Nat → Nat
  | 0 => 0
  | n + 1 => 10 * nv s a n + (byt s (a + n) - 48)

theorem nv_lt {s : ByteArray} {a n : Nat} (h : Good s (a + n)) : nv s a n < tn n := by
  induction n with
  | zero => simp [nv, tn]
  | succ n ih =>
    have h1 := ih (fun i hi => h i (by omega))
    have h2 := h (a + n) (by omega)
    rw [tn_succ, nv]
    omega
theorem nv_split (s : ByteArray) (a n m : Nat) : nv s a (n + m) = tn m * nv s a n + nv s (a + n) m := by
  induction m with
  | zero => simp [nv, tn]
  | succ m ih =>
    rw [← Nat.add_assoc, nv, ih, nv, tn_succ, Nat.add_assoc a n m]
    grind
theorem nv_ge {s : ByteArray} {n : Nat} (h : Good s (n + 1)) (h0 : byt s 0 ≠ 48) : tn n ≤ nv s 0 (n + 1) := by
  induction n with
  | zero =>
    have := h 0 (by omega)
    simp [nv, tn]
    omega
  | succ n ih =>
    have h1 := ih (fun i hi => h i (by omega))
    rw [nv, tn_succ]
    omega
/-- One limb more of a text. -/
theorem parse_step {s : ByteArray} {e : Nat} {L : List Nat} {N : Nat} (he : 9 ≤ e) (h : N = val L + pw L.length * nv s 0 e) : N = val (L ++ [nv s (e - 9) 9]) + pw (L ++ [nv s (e - 9) 9]).length * nv s 0 (e - 9) := by
  have h1 := nv_split s 0 (e - 9) 9
  rw [show e - 9 + 9 = e by omega, Nat.zero_add] at h1
  rw [h, h1, val_append, List.length_append, List.length_singleton, pw_succ]
  simp only [val, tn, Nat.mul_zero, Nat.add_zero]
  grind
theorem parse_last {s : ByteArray} {e : Nat} {L : List Nat} {N : Nat} (h : N = val L + pw L.length * nv s 0 e) : N = val (L ++ [nv s 0 e]) := by
  rw [h, val_append]
  simp [val]
theorem lim_val_top {L : List Nat} (hL : Lo L) (h0 : L ≠ []) (h : pw (L.length - 1) ≤ val L) : lim (val L) = L := by
  apply lim_val_of hL
  intro hz
  obtain ⟨n, hn⟩ : ∃ n, L.length = n + 1 := ⟨L.length - 1, by have := List.length_pos_iff.2 h0; omega⟩
  rw [List.getLastD_eq_getLast?, List.getLast?_eq_getElem?, hn, Nat.add_sub_cancel, List.getElem?_eq_getElem (by omega)] at hz
  rw [val_top hn, List.getD_eq_getElem?_getD, List.getElem?_eq_getElem (by omega)] at h
  simp only [Option.getD_some] at hz h
  rw [hz, Nat.mul_zero, Nat.add_zero, hn, Nat.add_sub_cancel] at h
  have := val_lt (lo_take hL n)
  rw [List.length_take, Nat.min_eq_left (by omega)] at this
  omega
/-- The four ways of a text. -/
theorem parse_ways (s : ByteArray) : 9216 < s.size ∨ (s.size ≤ 9216 ∧ ∃ i, i < s.size ∧ Good s i ∧ (byt s i < 48 ∨ 57 < byt s i)) ∨ (s.size ≤ 9216 ∧ Good s s.size ∧ (s.size = 0 ∨ (1 < s.size ∧ byt s 0 = 48))) ∨
    (s.size ≤ 9216 ∧ Good s s.size ∧ 0 < s.size ∧ (s.size = 1 ∨ byt s 0 ≠ 48)) := by
  rcases Nat.lt_or_ge 9216 s.size with h | h
  · exact .inl h
  · right
    have key : ∀ k, (∃ i, i < k ∧ Good s i ∧ (byt s i < 48 ∨ 57 < byt s i)) ∨ Good s k := by
      intro k
      induction k with
      | zero => exact .inr (fun i hi => by omega)
      | succ k ih =>
        rcases ih with ⟨i, hi, h1, h2⟩ | ih
        · exact .inl ⟨i, by omega, h1, h2⟩
        · by_cases hb : byt s k < 48 ∨ 57 < byt s k
          · exact .inl ⟨k, by omega, ih, hb⟩
          · refine .inr (fun i hi => ?_)
            rcases Nat.lt_or_ge i k with h1 | h1
            · exact ih i h1
            · obtain rfl : i = k := by omega
              omega
    rcases key s.size with ⟨i, hi, h1, h2⟩ | hg
    · exact .inl ⟨h, i, hi, h1, h2⟩
    · right
      by_cases hc : s.size = 0 ∨ (1 < s.size ∧ byt s 0 = 48)
      · exact .inl ⟨h, hg, hc⟩
      · exact .inr ⟨h, hg, by omega, by omega⟩
end Go.Proofs.YtbeocfiimminiaaDoor
