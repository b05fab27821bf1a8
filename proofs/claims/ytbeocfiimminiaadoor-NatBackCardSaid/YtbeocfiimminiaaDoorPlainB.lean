/-
  Plain facts: the text of a number reads as that number, and texts are ordered as numbers are.
-/
import Derived.Test.YtbeocfiimminiaaDoorPlainP
import Derived.Sort.Walk0
namespace Go.Proofs.YtbeocfiimminiaaDoor

theorem byt_bs {l : List Nat} {k : Nat} (h : k < l.length) (h2 : l.getD k 0 < 256) : byt (bs l) k = l.getD k 0 := by
  rw [← byt_list (by rw [bs_size]; exact h)]
  unfold bs
  rw [List.getD_eq_getElem?_getD, List.getD_eq_getElem?_getD] at *
  simp only [List.getElem?_map, List.getElem?_eq_getElem h, Option.map_some, Option.getD_some] at *
  simp
  omega
theorem dig_next (n p : Nat) : n / tn p = 10 * (n / tn (p + 1)) + dg n p := by
  have e : n / tn (p + 1) = n / tn p / 10 := by rw [tn_succ, Nat.mul_comm, Nat.div_div_eq_div_mul]
  unfold dg
  rw [e]
  omega
theorem txt_size (n : Nat) : 0 < (txt n).length := by
  by_cases h : n = 0
  · subst h; simp [txt_zero]
  · rw [txt_length h, ndig_pos h]; omega
theorem txt_facts {n d : Nat} (h1 : n < tn (d + 1)) (h2 : tn d ≤ n) : (bs (txt n)).size = d + 1 ∧ (∀ k, k < d + 1 → byt (bs (txt n)) k = 48 + dg n (d - k)) := by
  have e := txt_of h1 h2
  have el : (txt n).length = d + 1 := by rw [e]; simp
  refine ⟨by rw [bs_size, el], fun k hk => ?_⟩
  have eg : (txt n).getD k 0 = 48 + dg n (d - k) := by
    rw [e, List.getD_eq_getElem?_getD, List.getElem?_map, List.getElem?_range hk]
    rfl
  have := dg_lt n (d - k)
  rw [byt_bs (by omega) (by omega), eg]
theorem exists_d {n : Nat} (h : n ≠ 0) : ∃ d, n < tn (d + 1) ∧ tn d ≤ n ∧ ndig n = d + 1 := by
  have h1 := ndig_pos h
  refine ⟨ndig (n / 10), ?_, ?_, h1⟩
  · rw [← h1]; exact ndig_le.1 (Nat.le_refl _)
  · rcases Nat.lt_or_ge n (tn (ndig (n / 10))) with h2 | h2
    · have := ndig_le.2 h2; omega
    · exact h2
/-- The text of a number is a text that Parse reads as that number. -/
theorem txt_reads (n : Nat) : Good (bs (txt n)) (bs (txt n)).size ∧ 0 < (bs (txt n)).size ∧ ((bs (txt n)).size = 1 ∨ byt (bs (txt n)) 0 ≠ 48) ∧ nv (bs (txt n)) 0 (bs (txt n)).size = n := by
  by_cases h0 : n = 0
  · subst h0
    refine ⟨?_, by decide, .inl rfl, rfl⟩
    intro i hi
    obtain rfl : i = 0 := by have : (bs (txt 0)).size = 1 := rfl; omega
    decide
  · obtain ⟨d, h1, h2, _⟩ := exists_d h0
    obtain ⟨hs, hb⟩ := txt_facts h1 h2
    have hk : ∀ k, k ≤ d + 1 → nv (bs (txt n)) 0 k = n / tn (d + 1 - k) := by
      intro k
      induction k with
      | zero => intro _; rw [nv, Nat.sub_zero, Nat.div_eq_of_lt h1]
      | succ k ih =>
        intro hk
        rw [nv, ih (by omega), Nat.zero_add, hb k (by omega), show d + 1 - (k + 1) = d - k by omega, dig_next n (d - k), show d - k + 1 = d + 1 - k by omega]
        omega
    rw [hs]
    refine ⟨fun i hi => ?_, by omega, ?_, ?_⟩
    · rw [hb i hi]; have := dg_lt n (d - i); omega
    · right
      rw [hb 0 (by omega), Nat.sub_zero]
      have h3 : n / tn d < 10 := Nat.div_lt_of_lt_mul (by rw [tn_succ] at h1; rw [Nat.mul_comm]; exact h1)
      have h4 : 0 < n / tn d := Nat.div_pos h2 (tn_pos d)
      unfold dg
      omega
    · rw [hk (d + 1) (Nat.le_refl _), Nat.sub_self]; simp [tn]
theorem list_data (s : ByteArray) : s.toList = s.data.toList := Lib.toList_data s
theorem drop_size {s : ByteArray} {k : Nat} (h : s.size ≤ k) : s.data.toList.drop k = [] := List.drop_eq_nil_of_le (by simpa using h)
theorem drop_byt {s : ByteArray} {k : Nat} (h : k < s.size) : s.data.toList.drop k = UInt8.ofNat (byt s k) :: s.data.toList.drop (k + 1) := by
  have hl : k < s.data.toList.length := by simpa using h
  rw [List.drop_eq_getElem_cons hl]
  congr 1
  rw [← byt_list h, List.getD_eq_getElem?_getD, List.getElem?_eq_getElem hl]
  simp
theorem byte_lt {a b : Nat} (ha : a < 256) (hb : b < 256) : (UInt8.ofNat a < UInt8.ofNat b) ↔ a < b := by
  rw [UInt8.lt_iff_toNat_lt]
  simp
  omega
theorem byte_eq {a b : Nat} (ha : a < 256) (hb : b < 256) : (UInt8.ofNat a = UInt8.ofNat b) ↔ a = b := by
  rw [← UInt8.toNat_inj]
  simp
  omega
/-- Texts of digits of one length are ordered as their numbers. -/
theorem less_nv {s t : ByteArray} (hs : Good s s.size) (ht : Good t t.size) (he : s.size = t.size) : ∀ (m k : Nat), k + m = s.size → Op.bytesLess (s.data.toList.drop k) (t.data.toList.drop k) = decide (nv s k m < nv t k m) := by
  intro m
  induction m with
  | zero =>
    intro k hk
    rw [drop_size (s := s) (by omega), drop_size (s := t) (by omega)]
    simp [Op.bytesLess, nv]
  | succ m ih =>
    intro k hk
    rw [drop_byt (s := s) (by omega), drop_byt (s := t) (by omega), Op.bytesLess, ih (k + 1) (by omega)]
    have e1 := nv_split s k 1 m
    have e2 := nv_split t k 1 m
    rw [Nat.add_comm 1 m] at e1 e2
    simp only [nv, Nat.mul_zero, Nat.zero_add, Nat.add_zero] at e1 e2
    have b1 := hs k (by omega)
    have b2 := ht k (by omega)
    have c1 : nv s (k + 1) m < tn m := nv_lt (fun i hi => hs i (by omega))
    have c2 : nv t (k + 1) m < tn m := nv_lt (fun i hi => ht i (by omega))
    have l1 := byte_lt (byt_lt s k) (byt_lt t k)
    have l2 := byte_eq (byt_lt s k) (byt_lt t k)
    generalize hx : byt s k = x at *
    generalize hy : byt t k = y at *
    rw [Bool.eq_iff_iff]
    simp only [Bool.or_eq_true, Bool.and_eq_true, decide_eq_true_eq, beq_iff_eq, l1, l2]
    change (x < y ∨ x = y ∧ _) ↔ nv s k (m + 1) < nv t k (m + 1)
    rw [show nv s k (m + 1) = tn m * (x - 48) + nv s (k + 1) m from e1, show nv t k (m + 1) = tn m * (y - 48) + nv t (k + 1) m from e2]
    rcases Nat.lt_trichotomy x y with h | h | h
    · have : tn m * (x - 48 + 1) ≤ tn m * (y - 48) := Nat.mul_le_mul_left _ (by omega)
      rw [Nat.mul_add, Nat.mul_one] at this
      constructor
      · intro _; omega
      · intro _; exact .inl h
    · subst h
      constructor
      · rintro (h | ⟨_, h⟩)
        · omega
        · omega
      · intro h
        exact .inr ⟨rfl, by omega⟩
    · have : tn m * (y - 48 + 1) ≤ tn m * (x - 48) := Nat.mul_le_mul_left _ (by omega)
      rw [Nat.mul_add, Nat.mul_one] at this
      constructor
      · rintro (h1 | ⟨h1, _⟩) <;> omega
      · intro h1; omega
theorem list_nv {s t : ByteArray} (hs : Good s s.size) (ht : Good t t.size) (he : s.size = t.size) (hn : nv s 0 s.size = nv t 0 t.size) : s.data.toList = t.data.toList := by
  have key : ∀ (m k : Nat), k + m = s.size → nv s k m = nv t k m → s.data.toList.drop k = t.data.toList.drop k := by
    intro m
    induction m with
    | zero =>
      intro k hk _
      rw [drop_size (s := s) (by omega), drop_size (s := t) (by omega)]
    | succ m ih =>
      intro k hk hn
      have e1 := nv_split s k 1 m
      have e2 := nv_split t k 1 m
      rw [Nat.add_comm 1 m] at e1 e2
      simp only [nv, Nat.mul_zero, Nat.zero_add, Nat.add_zero] at e1 e2
      have b1 := hs k (by omega)
      have b2 := ht k (by omega)
      have c1 : nv s (k + 1) m < tn m := nv_lt (fun i hi => hs i (by omega))
      have c2 : nv t (k + 1) m < tn m := nv_lt (fun i hi => ht i (by omega))
      rw [drop_byt (s := s) (by omega), drop_byt (s := t) (by omega)]
      have e3 : nv s k (m + 1) = tn m * (byt s k - 48) + nv s (k + 1) m := e1
      have e4 : nv t k (m + 1) = tn m * (byt t k - 48) + nv t (k + 1) m := e2
      rw [e3, e4] at hn
      rcases Nat.lt_trichotomy (byt s k) (byt t k) with h | h | h
      · have : tn m * (byt s k - 48 + 1) ≤ tn m * (byt t k - 48) := Nat.mul_le_mul_left _ (by omega)
        rw [Nat.mul_add, Nat.mul_one] at this
        omega
      · rw [h] at hn ⊢
        rw [ih (k + 1) (by omega) (by omega)]
      · have : tn m * (byt t k - 48 + 1) ≤ tn m * (byt s k - 48) := Nat.mul_le_mul_left _ (by omega)
        rw [Nat.mul_add, Nat.mul_one] at this
        omega
  simpa using key s.size 0 (by omega) (by rw [hn, he])
end Go.Proofs.YtbeocfiimminiaaDoor
