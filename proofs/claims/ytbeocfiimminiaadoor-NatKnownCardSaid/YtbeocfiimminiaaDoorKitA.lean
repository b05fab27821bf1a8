/-
  The contract of parlourkit.Limbs: the number whose limbs some numbers select.
-/
import Derived.Test.YtbeocfiimminiaaDoorNatA
namespace Go.Proofs.YtbeocfiimminiaaDoor
open Go.RowKit
set_option linter.unusedVariables false

/-- The limbs that numbers select. -/
def cut9 (l : List Nat) : List Nat := l.map (· % 1000000000)
theorem lo_cut9 (l : List Nat) : Lo (cut9 l) := by
  intro x hx
  simp only [cut9, List.mem_map] at hx
  obtain ⟨y, _, rfl⟩ := hx
  omega
theorem cut9_length (l : List Nat) : (cut9 l).length = l.length := by simp [cut9]
theorem take_snoc {l : List Nat} {k : Nat} (h : k < l.length) : l.take (k + 1) = l.take k ++ [l.getD k 0] := by
  rw [List.take_add_one, List.getElem?_eq_getElem h, List.getD_eq_getElem?_getD, List.getElem?_eq_getElem h]
  rfl
theorem cut9_snoc {l : List Nat} {k : Nat} (h : k < l.length) : cut9 (l.take (k + 1)) = cut9 (l.take k) ++ [l.getD k 0 % 1000000000] := by
  rw [take_snoc h]
  simp [cut9]

set_option maxHeartbeats 400000 in
theorem limbs_l {w : World} {va : Value} {l : List Nat} {lo hi : Nat} (ha : IsL .u32 w lo hi va l) (hi1 : hi ≤ w.heap.size) (hl : l.length ≤ 4294967296) :
    Calls Tryd.prog 15 #[va] w fun e w' => (∃ v, e = .returned v ∧ IsN w' w.heap.size w'.heap.size v (val (cut9 l))) ∧ Below w.heap.size w w' := by
  obtain ⟨A, c, rfl, hc, hcm, hA⟩ := ha
  generalize hB : w.heap.size = B at *
  have HB := Lib.hid hB; clear hB
  go_enter Tryd.func15, Tryd.ntmps15
  go_wp2
  go_loopw [3, 4] (fun v i wr => ∃ k : Nat, k ≤ l.length ∧ i = .int .i64 (k : Int) ∧ Own wr B 34 v (cel .u32 (cut9 (l.take k))) ∧ Below B w wr) (fun _ i _ => l.length - (intOf i).toNat)
  case atStart => exact ⟨0, Nat.zero_le _, rfl, Own.nil _ _ _, Below.refl _ _⟩
  case round =>
    obtain ⟨k, hk, rfl, hown, hb⟩ := hrel
    have hBw : B ≤ wr.heap.size := by have := hb.size; have := HB.out; omega
    rcases Nat.lt_or_ge k l.length with hlt | hge
    · obtain ⟨b, off, rfl, hb1, hb2, hca⟩ := (hA.below hb hi1) (cel_ne (j := k) hlt)
      obtain ⟨x, hx, hx0, hck⟩ := cell_at (j := k) hca hlt
      clear hca
      have hlen : Hid ((cel .u32 (cut9 (l.take k))).length ≤ 4294967296) := by rw [Hid, cel_length, cut9_length, List.length_take]; omega
      go_wp2_with (at_builtin; refine wp_app1 elN rfl _ _ rfl rfl hown rfl rfl (by have := hlen.out; omega) hBw ?_; intro v1 w1 hown1 hbw1 hz1)
      go_roundw
      case rel =>
        rw [cel_snoc .u32 (cut9 (l.take k)) (l.getD k 0 % 1000000000) _ (by have := hx.out; omega), ← cut9_snoc hlt] at hown1
        exact ⟨k + 1, hlt, by go_num, hown1, hb.trans hbw1⟩
      case measure => simp [intOf]; omega
    · obtain rfl : k = l.length := by omega
      rw [List.take_length] at hown
      obtain ⟨A', c', hv, hc', hcm', hs'⟩ := hown.isL
      subst hv
      have Hs := Lib.hid hs'
      have Hc := Lib.hid hc'
      have Hm := Lib.hid hcm'
      rw [cut9_length] at hc'
      unfold maxLen at hcm'
      obtain ⟨wo, rfl⟩ : ∃ wo : World, wo = wr := ⟨_, rfl⟩
      clear hown hs'
      rw [cut9_length]
      have hL := cut9_length l
      have HL := Lib.hid hL
      clear hL
      go_wp2
      go_loopw [3] (fun s wr => wr = wo ∧ ∃ m : Nat, m ≤ l.length ∧ s = .slice A' m c' ∧ Hid (∀ j, m ≤ j → j < (cut9 l).length → (cut9 l).getD j 0 = 0)) (fun s _ => match s with | .slice _ m _ => m | _ => 0)
      case atStart => exact ⟨rfl, l.length, Nat.le_refl _, rfl, Lib.hid (by rw [HL.out]; intro j h1 h2; omega)⟩
      case round =>
        obtain ⟨rfl, m, hm, rfl, hz⟩ := hrel
        have fin : (m = 0 ∨ (cut9 l).getD (m - 1) 0 ≠ 0) → IsN wr B wr.heap.size (.slice A' m c') (val (cut9 l)) := fun hlast =>
          trim_isN (lo_cut9 l) Hc.out Hm.out (by rw [HL.out]; exact hm) hz.out hlast Hs.out
        have Fin := Lib.hid fin
        clear fin
        rcases m with _ | m
        · go_wp2
          go_ret
          exact ⟨⟨_, rfl, Fin.out (.inl trivial)⟩, hb⟩
        · obtain ⟨ba, oa, rfl, _, _, hca⟩ := Hs.out (cel_ne (j := m) (by rw [HL.out]; exact hm))
          obtain ⟨x, hx, hx0, hxc⟩ := cell_at (j := m) hca (by rw [HL.out]; omega)
          clear hca
          by_cases h0 : x = 0
          · subst h0
            go_wp2
            go_roundw
            case rel => exact ⟨trivial, m, by omega, rfl, Lib.hid (by
              intro j h1 h2
              rcases Nat.eq_or_lt_of_le h1 with h3 | h3
              · subst h3; have := hx.out; omega
              · exact hz.out j h3 h2)⟩
            case measure => simp
          · have hb0 : (x == 0) = false := by simpa using h0
            go_wp2
            go_ret
            exact ⟨⟨_, rfl, Fin.out (.inr (by have := hx.out; simp only [Nat.add_sub_cancel]; omega))⟩, hb⟩
end Go.Proofs.YtbeocfiimminiaaDoor
