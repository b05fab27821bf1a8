/-
  The contracts of package nat's Check, first, bounded, Of, Cmp, Div; of parlourkit's Alike.
-/
import Derived.Test.YtbeocfiimminiaaDoorLongE
namespace Go.Proofs.YtbeocfiimminiaaDoor
open Go.RowKit
set_option linter.unusedVariables false

/-- The error of a list of limbs. -/
def chk (l : List Nat) : Int := if 1024 < l.length then 4 else if l.any (fun x => decide (1000000000 ≤ x)) then 3 else if l.getLastD 1 = 0 then 3 else 0

theorem chk_long {l : List Nat} (h : 1024 < l.length) : chk l = 4 := by unfold chk; rw [if_pos h]
theorem chk_big {l : List Nat} (h : ¬ 1024 < l.length) {x : Nat} (hx : x ∈ l) (hb : 1000000000 ≤ x) : chk l = 3 := by
  unfold chk
  rw [if_neg h, if_pos]
  rw [List.any_eq_true]
  exact ⟨x, hx, by simpa using hb⟩
theorem chk_lo {l : List Nat} (h : ¬ 1024 < l.length) (hl : Lo l) : chk l = if l.getLastD 1 = 0 then 3 else 0 := by
  unfold chk
  rw [if_neg h, if_neg]
  rw [List.any_eq_true]
  rintro ⟨x, hx, hb⟩
  have := hl x hx
  simp at hb
  omega
theorem chk_ok {l : List Nat} (h : chk l = 0) : l.length ≤ 1024 ∧ Lo l ∧ l = lim (val l) := by
  unfold chk at h
  split at h
  · omega
  · split at h
    · omega
    · rename_i h1 h2
      split at h
      · omega
      · rename_i h3
        have hl : Lo l := by
          intro x hx
          rcases Nat.lt_or_ge x 1000000000 with h4 | h4
          · exact h4
          · exact absurd (List.any_eq_true.2 ⟨x, hx, by simpa using h4⟩) h2
        exact ⟨by omega, hl, (lim_val_of hl h3).symm⟩
theorem chk_lim {n : Nat} (h : (lim n).length ≤ 1024) : chk (lim n) = 0 := by
  rw [chk_lo (by omega) (lo_lim n), if_neg (last_lim n)]
theorem last_getD {l : List Nat} (h : 0 < l.length) : l.getLastD 1 = l.getD (l.length - 1) 0 := by
  rw [List.getLastD_eq_getLast?, List.getLast?_eq_getElem?, List.getD_eq_getElem?_getD, List.getElem?_eq_getElem (by omega)]
  rfl
theorem getD_mem {l : List Nat} {k : Nat} (h : k < l.length) : l.getD k 0 ∈ l := by
  rw [List.getD_eq_getElem?_getD, List.getElem?_eq_getElem h]
  exact List.getElem_mem h
theorem lo_of_getD {l : List Nat} (h : ∀ j, j < l.length → l.getD j 0 < 1000000000) : Lo l := by
  intro x hx
  obtain ⟨j, hj, rfl⟩ := List.getElem_of_mem hx
  have := h j hj
  rw [List.getD_eq_getElem?_getD, List.getElem?_eq_getElem hj] at this
  exact this

set_option maxHeartbeats 400000 in
theorem check_l {w : World} {va : Value} {l : List Nat} {lo hi : Nat} (ha : IsL .u32 w lo hi va l) :
    Calls Tryd.prog 31 #[va] w fun e w' => e = .returned (.int .i64 (chk l)) ∧ w = w' := by
  obtain ⟨A, c, rfl, hc, hcm, hA⟩ := ha
  by_cases hlong : 1024 < l.length
  · have H := Lib.hid (chk_long hlong)
    go_enter Tryd.func31, Tryd.ntmps31
    go_wp2
    go_ret
    exact ⟨ret_int H.out.symm, rfl⟩
  · go_enter Tryd.func31, Tryd.ntmps31
    go_wp2
    go_loop [10] (fun i => ∃ k : Nat, k ≤ l.length ∧ i = .int .i64 k ∧ Hid (∀ j, j < k → l.getD j 0 < 1000000000)) (fun i => l.length - (intOf i).toNat)
    case atStart => exact ⟨0, Nat.zero_le _, rfl, fun j hj => by omega⟩
    case round =>
      obtain ⟨k, hk, rfl, hall⟩ := hrel
      by_cases hlt : k < l.length
      · obtain ⟨b, off, rfl, _, _, hca⟩ := hA (cel_ne (j := k) hlt)
        obtain ⟨x, hx, hx0, hck⟩ := cell_at (j := k) hca hlt
        clear hca
        rcases Int.lt_or_le x 1000000000 with hx1 | hx1
        · go_wp2
          go_round
          case rel =>
            refine ⟨k + 1, hlt, by go_num, ?_⟩
            intro j hj
            rcases Nat.lt_or_ge j k with h | h
            · exact hall.out j h
            · obtain rfl : j = k := by omega
              have := hx.out
              omega
          case measure => simp [intOf]; omega
        · have H := Lib.hid (chk_big hlong (getD_mem hlt) (by have := hx.out; omega))
          go_wp2
          go_ret
          exact ⟨ret_int H.out.symm, rfl⟩
      · obtain rfl : k = l.length := by omega
        have hL := Lib.hid (chk_lo hlong (lo_of_getD hall.out))
        clear hall
        by_cases h0 : 0 < l.length
        · obtain ⟨b, off, rfl, _, _, hca⟩ := hA (cel_ne (j := l.length - 1) (by omega))
          obtain ⟨x, hx, hx0, hck⟩ := cell_at (j := l.length - 1) hca (by omega)
          clear hca
          have hlast := Lib.hid (last_getD h0)
          by_cases hxz : x = 0
          · subst hxz
            have H : Hid (chk l = 3) := by unfold Hid; rw [hL.out, if_pos]; rw [hlast.out]; have := hx.out; omega
            go_wp2
            go_ret
            exact ⟨ret_int H.out.symm, rfl⟩
          · have hb : (x == 0) = false := beq_eq_false_iff_ne.2 hxz
            have H : Hid (chk l = 0) := by unfold Hid; rw [hL.out, if_neg]; rw [hlast.out]; have := hx.out; omega
            clear hxz
            go_wp2
            go_ret
            exact ⟨ret_int H.out.symm, rfl⟩
        · have e : l = [] := List.eq_nil_of_length_eq_zero (by omega)
          subst e
          have H : Hid (chk [] = 0) := by show chk [] = 0; decide
          go_wp2
          go_ret
          exact ⟨ret_int H.out.symm, rfl⟩

/-- The first error of two. -/
def fst2 (a b : Int) : Int := if a ≠ 0 then a else b

set_option maxHeartbeats 400000 in
theorem first_two {w : World} {va vb : Value} {a b : List Nat} {g lo hi lo' hi' : Nat} (ha : IsL .u32 w lo hi va a) (hb : IsL .u32 w lo' hi' vb b) (h0 : w.cell? ⟨g, 0, none⟩ = some va) (h1 : w.cell? ⟨g, 1, none⟩ = some vb) :
    Calls Tryd.prog 35 #[.slice (some ⟨g, 0, none⟩) 2 2] w fun e w' => e = .returned (.int .i64 (fst2 (chk a) (chk b))) ∧ w = w' := by
  have Ha := Lib.hid ha
  have Hb := Lib.hid hb
  obtain ⟨A, c, rfl, _, _, _⟩ := ha
  obtain ⟨B, d, rfl, _, _, _⟩ := hb
  go_enter Tryd.func35, Tryd.ntmps35
  go_wp2
  go_loop [8] (fun i => (i = .int .i64 0) ∨ (i = .int .i64 1 ∧ Hid (chk a = 0)) ∨ (i = .int .i64 2 ∧ Hid (chk a = 0 ∧ chk b = 0))) (fun i => 2 - (intOf i).toNat)
  case atStart => exact .inl rfl
  case round =>
    rcases hrel with rfl | ⟨rfl, hz⟩ | ⟨rfl, hz⟩
    · go_wp2_with fail
      refine (check_l Ha.out).mono ?_
      generalize he : chk a = ea at *
      have He := Lib.hid he; clear he
      rintro e w1 ⟨rfl, rfl⟩
      by_cases hea : ea = 0
      · subst hea
        go_wp2_with fail
        go_round
        case rel => exact .inr (.inl ⟨rfl, He.out⟩)
        case measure => simp [intOf]
      · have hb1 : (ea != 0) = true := bne_iff_ne.2 hea
        have H : Hid (fst2 (chk a) (chk b) = ea) := by rw [Hid, He.out]; simp [fst2, hea]
        clear hea
        go_wp2_with fail
        go_ret
        exact ⟨ret_int H.out.symm, rfl⟩
    · go_wp2_with fail
      refine (check_l Hb.out).mono ?_
      generalize he : chk b = eb at *
      have He := Lib.hid he; clear he
      rintro e w1 ⟨rfl, rfl⟩
      by_cases heb : eb = 0
      · subst heb
        go_wp2_with fail
        go_round
        case rel => exact .inr (.inr ⟨rfl, hz.out, He.out⟩)
        case measure => simp [intOf]
      · have hb1 : (eb != 0) = true := bne_iff_ne.2 heb
        have H : Hid (fst2 (chk a) (chk b) = eb) := by rw [Hid, He.out]; simp [fst2, hz.out]
        clear heb
        go_wp2_with fail
        go_ret
        exact ⟨ret_int H.out.symm, rfl⟩
    · have H : Hid (fst2 (chk a) (chk b) = 0) := by simp [Hid, fst2, hz.out.1, hz.out.2]
      go_wp2_with fail
      go_ret
      exact ⟨ret_int H.out.symm, rfl⟩

set_option maxHeartbeats 400000 in
theorem bounded_n {w : World} {va : Value} {n : Nat} {lo hi : Nat} (ha : IsN w lo hi va n) :
    Calls Tryd.prog 43 #[va] w fun e w' => e = .returned (.tuple #[if (lim n).length ≤ 1024 then va else .slice none 0 0, .int .i64 (if (lim n).length ≤ 1024 then 0 else 5)]) ∧ w = w' := by
  obtain ⟨A, c, rfl, _, _, _⟩ := ha
  generalize hl : (lim n).length = l at *
  clear hl
  by_cases h : l ≤ 1024
  · rw [if_pos h, if_pos h]
    go_enter Tryd.func43, Tryd.ntmps43
    go_wp2
    go_ret2
    exact ⟨rfl, rfl⟩
  · rw [if_neg h, if_neg h]
    go_enter Tryd.func43, Tryd.ntmps43
    go_wp2
    go_ret2
    exact ⟨rfl, rfl⟩

set_option maxHeartbeats 400000 in
theorem nof_neg (w : World) (n : Int) (h : n < 0) :
    Calls Tryd.prog 27 #[.int .i64 n] w fun e w' => e = .returned (.tuple #[.slice none 0 0, .int .i64 2]) ∧ w = w' := by
  go_enter Tryd.func27, Tryd.ntmps27
  go_wp2
  go_ret2
  exact ⟨rfl, rfl⟩
set_option maxHeartbeats 400000 in
theorem nof_pos (w : World) (n : Int) (h : 0 ≤ n) (h9 : n ≤ 9223372036854775807) :
    Calls Tryd.prog 27 #[.int .i64 n] w fun e w' => (∃ v, e = .returned (.tuple #[v, .int .i64 0]) ∧ IsN w' w.heap.size w'.heap.size v n.toNat) ∧ Below w.heap.size w w' := by
  go_enter Tryd.func27, Tryd.ntmps27
  go_wp2_with fail
  refine (of_i w n h (by omega)).mono ?_
  rintro e w1 ⟨⟨v, rfl, hv⟩, hb⟩
  go_wp2_with fail
  go_ret2
  exact ⟨⟨_, rfl, hv⟩, hb⟩

/-- Two values in a new block. -/
theorem two_new (w : World) (a b : Value) (t : TypeId) : (w.alloc (.cells #[a, b] t)).cell? ⟨w.heap.size, 0, none⟩ = some a ∧ (w.alloc (.cells #[a, b] t)).cell? ⟨w.heap.size, 1, none⟩ = some b := by
  have h0 := cell_two_new w a b t 0 a rfl
  have h1 := cell_two_new w a b t 1 b rfl
  rw [Addr.add_lit] at h0 h1
  exact ⟨h0, h1⟩
theorem IsL.alloc {k : IntKind} {w : World} {lo hi : Nat} {v : Value} {l : List Nat} (h : IsL k w lo hi v l) (hi1 : hi ≤ w.heap.size) (o : Obj) : IsL k (w.alloc o) lo hi v l :=
  h.below ((Below.refl _ _).alloc (Nat.le_refl _) o) hi1
theorem IsN.alloc {w : World} {lo hi : Nat} {v : Value} {n : Nat} (h : IsN w lo hi v n) (hi1 : hi ≤ w.heap.size) (o : Obj) : IsN (w.alloc o) lo hi v n := IsL.alloc h hi1 o

/-- A list of limbs without fault is a number. -/
theorem IsL.isN {w : World} {lo hi : Nat} {v : Value} {l : List Nat} (h : IsL .u32 w lo hi v l) (hc : chk l = 0) : IsN w lo hi v (val l) := by
  unfold IsN
  rw [← (chk_ok hc).2.2]
  exact h
theorem chk_len {l : List Nat} (hc : chk l = 0) : (lim (val l)).length ≤ 1024 := by
  rw [← (chk_ok hc).2.2]
  exact (chk_ok hc).1

set_option maxHeartbeats 400000 in
theorem ncmp_bad {w : World} {va vb : Value} {a b : List Nat} {lo hi lo' hi' : Nat} (ha : IsL .u32 w lo hi va a) (hb : IsL .u32 w lo' hi' vb b) (hi1 : hi ≤ w.heap.size) (hi2 : hi' ≤ w.heap.size) (he : fst2 (chk a) (chk b) ≠ 0) :
    Calls Tryd.prog 17 #[va, vb] w fun e w' => e = .returned (.tuple #[.int .i64 0, .int .i64 (fst2 (chk a) (chk b))]) ∧ Below w.heap.size w w' := by
  have Ha := Lib.hid ha
  have Hb := Lib.hid hb
  obtain ⟨A, c, rfl, _, _, _⟩ := ha
  obtain ⟨B, d, rfl, _, _, _⟩ := hb
  have hne : (fst2 (chk a) (chk b) != 0) = true := bne_iff_ne.2 he
  clear he
  go_enter Tryd.func17, Tryd.ntmps17
  go_wp2_with fail
  refine (first_two (Ha.out.alloc hi1 _) (Hb.out.alloc hi2 _) (two_new _ _ _ _).1 (two_new _ _ _ _).2).mono ?_
  rintro e w1 ⟨rfl, rfl⟩
  go_wp2_with fail
  go_ret2
  exact ⟨rfl, (Below.refl _ _).alloc (Nat.le_refl _) _⟩

set_option maxHeartbeats 400000 in
theorem ncmp_ok {w : World} {va vb : Value} {x y : Nat} {lo hi lo' hi' : Nat} (ha : IsN w lo hi va x) (hb : IsN w lo' hi' vb y) (hi1 : hi ≤ w.heap.size) (hi2 : hi' ≤ w.heap.size) (hx : (lim x).length ≤ 1024) (hy : (lim y).length ≤ 1024) :
    Calls Tryd.prog 17 #[va, vb] w fun e w' => e = .returned (.tuple #[.int .i64 (sgn x y), .int .i64 0]) ∧ Below w.heap.size w w' := by
  have Ha := Lib.hid ha
  have Hb := Lib.hid hb
  obtain ⟨A, c, rfl, _, _, _⟩ := ha
  obtain ⟨B, d, rfl, _, _, _⟩ := hb
  have H : Hid (fst2 (chk (lim x)) (chk (lim y)) = 0) := by simp [Hid, fst2, chk_lim hx, chk_lim hy]
  go_enter Tryd.func17, Tryd.ntmps17
  go_wp2_with fail
  refine (first_two (Ha.out.alloc hi1 _) (Hb.out.alloc hi2 _) (two_new _ _ _ _).1 (two_new _ _ _ _).2).mono ?_
  rw [H.out]
  rintro e w1 ⟨rfl, rfl⟩
  go_wp2_with fail
  refine (cmp_n (Ha.out.alloc hi1 _) (Hb.out.alloc hi2 _)).mono ?_
  rintro e w1 ⟨rfl, hd⟩
  go_wp2_with fail
  go_ret2
  exact ⟨rfl, ((Below.refl _ _).alloc (Nat.le_refl _) _).trans (hd.below _)⟩
end Go.Proofs.YtbeocfiimminiaaDoor
