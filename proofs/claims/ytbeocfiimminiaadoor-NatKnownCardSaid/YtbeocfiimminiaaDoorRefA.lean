/-
  The contracts of the reference's trim, Order, Check.
-/
import Derived.Test.YtbeocfiimminiaaDoorNatA
namespace Go.Proofs.YtbeocfiimminiaaDoor
open Go.RowKit
set_option linter.unusedVariables false

set_option maxHeartbeats 400000 in
/-- The reference's trim: the same memory, fewer limbs. -/
theorem rtrim_same (A : Option Addr) (c : Nat) (l : List Nat) (w : World) (lo hi : Nat) (hl : Lo l) (hll : l.length ≤ c) (hlc : c ≤ maxLen) (hA : SV w lo hi A (cel .u32 l)) :
    Calls Tryd.prog 34 #[.slice A l.length c] w fun e w' => (∃ m, e = .returned (.slice A m c) ∧ m ≤ l.length ∧ lim (val l) = l.take m) ∧ w = w' := by
  have Hlc2 := Lib.hid hlc
  unfold maxLen at hlc
  have Hl := Lib.hid hl; clear hl
  go_enter Tryd.func34, Tryd.ntmps34
  go_wp2
  go_loop [0] (fun s => ∃ m : Nat, m ≤ l.length ∧ s = .slice A m c ∧ Hid (∀ j, m ≤ j → j < l.length → l.getD j 0 = 0)) (fun s => match s with | .slice _ m _ => m | _ => 0)
  case atStart => exact ⟨l.length, Nat.le_refl _, rfl, Lib.hid (by intro j h1 h2; omega)⟩
  case round =>
    obtain ⟨m, hm, rfl, hz⟩ := hrel
    rcases m with _ | m
    · go_wp2
      go_ret
      exact ⟨⟨0, rfl, Nat.zero_le _, trim_to Hl.out (Nat.zero_le _) hz.out (.inl rfl)⟩, rfl⟩
    · obtain ⟨ba, oa, rfl, _, _, hca⟩ := hA (cel_ne hm)
      obtain ⟨x, hx, hx0, hxc⟩ := cell_at (j := m) hca (by omega)
      clear hca
      by_cases h0 : x = 0
      · subst h0
        go_wp2
        go_round
        case rel => exact ⟨m, by omega, rfl, Lib.hid (by
          intro j h1 h2
          rcases Nat.eq_or_lt_of_le h1 with h3 | h3
          · subst h3; have := hx.out; omega
          · exact hz.out j h3 h2)⟩
        case measure => simp
      · have hb : (x == 0) = false := by simpa using h0
        go_wp2
        go_ret
        exact ⟨⟨m + 1, rfl, hm, trim_to Hl.out hm hz.out (.inr (by have := hx.out; simp only [Nat.add_sub_cancel]; omega))⟩, rfl⟩

theorem rtrim_list (A : Option Addr) (c : Nat) (l : List Nat) (w : World) (lo hi : Nat) (hl : Lo l) (hll : l.length ≤ c) (hlc : c ≤ maxLen) (hA : SV w lo hi A (cel .u32 l)) :
    Calls Tryd.prog 34 #[.slice A l.length c] w fun e w' => (∃ v, e = .returned v ∧ IsN w lo hi v (val l)) ∧ w = w' :=
  (rtrim_same A c l w lo hi hl hll hlc hA).mono fun e w' ⟨⟨m, he, hm, ht⟩, hw⟩ => ⟨⟨_, he, A, c, by rw [ht, List.length_take, Nat.min_eq_left hm], by rw [ht, List.length_take]; omega, hlc, by rw [ht, cel_take]; exact hA.take m⟩, hw⟩

theorem rtrim_l {w : World} {va : Value} {l : List Nat} {lo hi : Nat} (ha : IsL .u32 w lo hi va l) (hl : Lo l) :
    Calls Tryd.prog 34 #[va] w fun e w' => (∃ v, e = .returned v ∧ IsN w lo hi v (val l)) ∧ w = w' := by
  obtain ⟨A, c, rfl, hc, hcm, hA⟩ := ha
  exact rtrim_list A c l w lo hi hl hc hcm hA


set_option maxHeartbeats 400000 in
theorem rcheck_l {w : World} {va : Value} {l : List Nat} {lo hi : Nat} (ha : IsL .u32 w lo hi va l) :
    Calls Tryd.prog 33 #[va] w fun e w' => e = .returned (.int .i64 (chk l)) ∧ w = w' := by
  obtain ⟨A, c, rfl, hc, hcm, hA⟩ := ha
  by_cases hlong : 1024 < l.length
  · have H := Lib.hid (chk_long hlong)
    go_enter Tryd.func33, Tryd.ntmps33
    go_wp2
    go_ret
    exact ⟨ret_int H.out.symm, rfl⟩
  · go_enter Tryd.func33, Tryd.ntmps33
    go_wp2
    go_loop [3] (fun i => ∃ k : Nat, k ≤ l.length ∧ i = .int .i64 k ∧ Hid (∀ j, j < k → l.getD j 0 < 1000000000)) (fun i => l.length - (intOf i).toNat)
    case atStart => exact ⟨0, Nat.zero_le _, rfl, fun j hj => by omega⟩
    case round =>
      obtain ⟨k, hk, rfl, hall⟩ := hrel
      by_cases hlt : k < l.length
      · obtain ⟨b, off, rfl, _, _, hca⟩ := hA (cel_ne (j := k) hlt)
        obtain ⟨x, hx, hx0, hck⟩ := cell_at (j := k) hca hlt
        clear hca
        rcases Int.lt_or_le x 1000000000 with hx1 | hx1
        · go_wp2
          go_round
          case rel =>
            refine ⟨k + 1, hlt, by go_num, ?_⟩
            intro j hj
            rcases Nat.lt_or_ge j k with h | h
            · exact hall.out j h
            · obtain rfl : j = k := by omega
              have := hx.out
              omega
          case measure => simp [intOf]; omega
        · have H := Lib.hid (chk_big hlong (getD_mem hlt) (by have := hx.out; omega))
          go_wp2
          go_ret
          exact ⟨ret_int H.out.symm, rfl⟩
      · obtain rfl : k = l.length := by omega
        have hL := Lib.hid (chk_lo hlong (lo_of_getD hall.out))
        clear hall
        by_cases h0 : 0 < l.length
        · obtain ⟨b, off, rfl, _, _, hca⟩ := hA (cel_ne (j := l.length - 1) (by omega))
          obtain ⟨x, hx, hx0, hck⟩ := cell_at (j := l.length - 1) hca (by omega)
          clear hca
          have hlast := Lib.hid (last_getD h0)
          by_cases hxz : x = 0
          · subst hxz
            have H : Hid (chk l = 3) := by unfold Hid; rw [hL.out, if_pos]; rw [hlast.out]; have := hx.out; omega
            go_wp2
            go_ret
            exact ⟨ret_int H.out.symm, rfl⟩
          · have hb : (x == 0) = false := beq_eq_false_iff_ne.2 hxz
            have H : Hid (chk l = 0) := by unfold Hid; rw [hL.out, if_neg]; rw [hlast.out]; have := hx.out; omega
            clear hxz
            go_wp2
            go_ret
            exact ⟨ret_int H.out.symm, rfl⟩
        · have e : l = [] := List.eq_nil_of_length_eq_zero (by omega)
          subst e
          have H : Hid (chk [] = 0) := by show chk [] = 0; decide
          go_wp2
          go_ret
          exact ⟨ret_int H.out.symm, rfl⟩
end Go.Proofs.YtbeocfiimminiaaDoor
