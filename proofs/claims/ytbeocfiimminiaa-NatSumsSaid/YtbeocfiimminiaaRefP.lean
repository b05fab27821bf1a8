/-
  The contracts of the reference's Plus, Fits, Add.
-/
import Derived.Test.YtbeocfiimminiaaIntB
import Derived.Test.YtbeocfiimminiaaPlainS
namespace Go.Proofs.Ytbeocfiimminiaa
open Go.RowKit
set_option linter.unusedVariables false

set_option maxRecDepth 100000 in
set_option maxHeartbeats 1000000 in
theorem rplus_n {w : World} {va vb : Value} {x y : Nat} {lo hi lo' hi' : Nat} (ha : IsN w lo hi va x) (hb : IsN w lo' hi' vb y) (hi1 : hi ≤ w.heap.size) (hi2 : hi' ≤ w.heap.size) (hx : (lim x).length ≤ 4294967296) (hy : (lim y).length ≤ 4294967296) :
    Calls Try.prog 43 #[va, vb] w fun e w' => (∃ v, e = .returned v ∧ IsN w' w.heap.size w'.heap.size v (x + y)) ∧ Below w.heap.size w w' := by
  obtain ⟨A, c, rfl, _, _, hA⟩ := ha
  obtain ⟨B, d, rfl, _, _, hB⟩ := hb
  obtain ⟨M, hM1, hM2, hM3⟩ : ∃ M : Nat, (lim x).length ≤ M ∧ (lim y).length ≤ M ∧ (M = (lim x).length ∨ M = (lim y).length) := ⟨max (lim x).length (lim y).length, by omega, by omega, by omega⟩
  have hM : Hid (∀ k, k < M → pw k ≤ x + y) := by
    intro k hk
    rcases hM3 with h | h
    · have := pw_le_of_len (x := x) (k := k) (by omega); omega
    · have := pw_le_of_len (x := y) (k := k) (by omega); omega
  generalize hla : lim x = a at *
  generalize hlb : lim y = b at *
  have Hal : Hid (Lo a ∧ val a = x) := by rw [Hid, ← hla]; exact ⟨lo_lim x, val_lim x⟩
  have Hbl : Hid (Lo b ∧ val b = y) := by rw [Hid, ← hlb]; exact ⟨lo_lim y, val_lim y⟩
  have hM4 : M ≤ 4294967296 := by omega
  clear hla hlb hM3
  generalize hBs : w.heap.size = bs at *
  have HB := Lib.hid hBs; clear hBs
  go_enter Try.func43, Try.ntmps43
  go_wp2
  go_loopw [5, 6, 7] (fun v cy i wr => ∃ (k : Nat) (L : List Nat) (q : Int), k ≤ M + 1 ∧ i = .int .i64 (k : Int) ∧ cy = .int .u32 q ∧ 0 ≤ q ∧ q ≤ 1 ∧ Own wr bs 30 v (cel .u32 L) ∧ Below bs w wr ∧
      Hid (L.length = k ∧ Lo L ∧ (val L : Int) + q * pw k = val (a.take k) + val (b.take k) ∧ (M < k → q = 0 ∧ pw M ≤ val L))) (fun _ _ i _ => M + 1 - (intOf i).toNat)
  case atStart => exact ⟨0, [], 0, by omega, rfl, rfl, by omega, by omega, Own.nil _ _ _, Below.refl _ _, rfl, lo_nil, by simp [val], fun h => by omega⟩
  case round =>
    obtain ⟨k, L, q, hk, rfl, rfl, hq0, hq1, hown, hbw, hrel⟩ := hrel
    have hBw : bs ≤ wr.heap.size := by have := hbw.size; have := HB.out; omega
    have hkc : k ≤ 4294967297 := by omega
    have hlen : Hid ((cel .u32 L).length ≤ 4294967297) := by rw [Hid, cel_length, hrel.out.1]; omega
    rcases Nat.lt_or_ge k a.length with hka | hka
    · obtain ⟨ba, oa, rfl, _, _, hca⟩ := (hA.below hbw hi1) (cel_ne (j := k) hka)
      obtain ⟨x1, hx1, hx10, hx11, hx1c⟩ := cell_lo (j := k) Hal.out.1 hca hka
      clear hca
      rcases Nat.lt_or_ge k b.length with hkb | hkb
      · obtain ⟨bb, ob, rfl, _, _, hcb⟩ := (hB.below hbw hi2) (cel_ne (j := k) hkb)
        obtain ⟨y1, hy1, hy10, hy11, hy1c⟩ := cell_lo (j := k) Hbl.out.1 hcb hkb
        clear hcb
        go_wp2_with (at_builtin; refine wp_app1 elN rfl _ _ rfl rfl hown rfl rfl (by have := hlen.out; omega) hBw ?_; intro v1 w1 hown1 hbw1 hz1)
        go_roundw
        case rel =>
          rw [cel_snoc .u32 L ((q + x1 + y1) % 1000000000).toNat _ (by omega)] at hown1
          exact ⟨k + 1, _, (q + x1 + y1) / 1000000000, by omega, by go_num, rfl, by omega, by omega, hown1, hbw.trans hbw1, by rw [List.length_append]; simp [hrel.out.1], lo_snoc hrel.out.2.1 (by omega), plus_step hrel.out.1 hx1.out hy1.out (by omega) (by omega) hrel.out.2.2.1, fun h => by omega⟩
        case measure => simp [intOf]; omega
      · go_wp2_with (at_builtin; refine wp_app1 elN rfl _ _ rfl rfl hown rfl rfl (by have := hlen.out; omega) hBw ?_; intro v1 w1 hown1 hbw1 hz1)
        go_roundw
        case rel =>
          rw [cel_snoc .u32 L ((q + x1) % 1000000000).toNat _ (by omega)] at hown1
          exact ⟨k + 1, _, (q + x1) / 1000000000, by omega, by go_num, rfl, by omega, by omega, hown1, hbw.trans hbw1, by rw [List.length_append]; simp [hrel.out.1], lo_snoc hrel.out.2.1 (by omega), plus_step (y := 0) hrel.out.1 hx1.out (by rw [getD_end hkb]; rfl) (by omega) (by omega) hrel.out.2.2.1, fun h => by omega⟩
        case measure => simp [intOf]; omega
    · rcases Nat.lt_or_ge k b.length with hkb | hkb
      · obtain ⟨bb, ob, rfl, _, _, hcb⟩ := (hB.below hbw hi2) (cel_ne (j := k) hkb)
        obtain ⟨y1, hy1, hy10, hy11, hy1c⟩ := cell_lo (j := k) Hbl.out.1 hcb hkb
        clear hcb
        go_wp2_with (at_builtin; refine wp_app1 elN rfl _ _ rfl rfl hown rfl rfl (by have := hlen.out; omega) hBw ?_; intro v1 w1 hown1 hbw1 hz1)
        go_roundw
        case rel =>
          rw [cel_snoc .u32 L ((q + y1) % 1000000000).toNat _ (by omega)] at hown1
          exact ⟨k + 1, _, (q + y1) / 1000000000, by omega, by go_num, rfl, by omega, by omega, hown1, hbw.trans hbw1, by rw [List.length_append]; simp [hrel.out.1], lo_snoc hrel.out.2.1 (by omega), plus_step (x := 0) hrel.out.1 (by rw [getD_end hka]; rfl) hy1.out (by omega) (by omega) hrel.out.2.2.1, fun h => by omega⟩
        case measure => simp [intOf]; omega
      · have hV : Hid ((val L : Int) + q * pw k = x + y) := by
          have := hrel.out.2.2.1
          rw [val_take_all hka, val_take_all hkb, Hal.out.2, Hbl.out.2] at this
          exact this
        rcases Int.lt_or_le 0 q with hqp | hqz
        · have hkM : k ≤ M := by
            rcases Nat.lt_or_ge M k with h | h
            · have := hrel.out.2.2.2 h; omega
            · exact h
          go_wp2_with (at_builtin; refine wp_app1 elN rfl _ _ rfl rfl hown rfl rfl (by have := hlen.out; omega) hBw ?_; intro v1 w1 hown1 hbw1 hz1)
          go_roundw
          case rel =>
            rw [cel_snoc .u32 L (q % 1000000000).toNat _ (by omega)] at hown1
            refine ⟨k + 1, _, q / 1000000000, by omega, by go_num, rfl, by omega, by omega, hown1, hbw.trans hbw1, by rw [List.length_append]; simp [hrel.out.1], lo_snoc hrel.out.2.1 (by omega), plus_step (x := 0) (y := 0) hrel.out.1 (by rw [getD_end hka]; rfl) (by rw [getD_end hkb]; rfl) (by omega) (by omega) hrel.out.2.2.1, fun h => ⟨by omega, ?_⟩⟩
            rw [val_append, hrel.out.1, show (q % 1000000000).toNat = 1 from by omega, show k = M from by omega, val_cons, val_nil]
            omega
          case measure => simp [intOf]; omega
        · obtain rfl : q = 0 := by omega
          have hfin : Hid (lim (x + y) = L) := by
            have h1 : val L = x + y := by have := hV.out; omega
            rw [Hid, ← h1]
            refine lim_of_len hrel.out.2.1 ?_
            rcases Nat.lt_or_ge M k with h | h
            · exact .inr (by rw [hrel.out.1, show k - 1 = M from by omega]; exact (hrel.out.2.2.2 h).2)
            · rcases Nat.eq_zero_or_pos k with h0 | h0
              · exact .inl (List.eq_nil_of_length_eq_zero (by rw [hrel.out.1]; exact h0))
              · exact .inr (by rw [hrel.out.1, h1]; exact hM.out (k - 1) (by omega))
          go_wp2
          go_ret
          refine ⟨⟨_, rfl, ?_⟩, hbw⟩
          unfold IsN
          rw [hfin.out]
          exact Own.isL hown

/-- The result of a bounded operation: the number and the error. -/
def fitv (n : Nat) : Nat := if (lim n).length ≤ 1024 then n else 0
def fite (n : Nat) : Int := if (lim n).length ≤ 1024 then 0 else 5
theorem fitv_le {n : Nat} (h : (lim n).length ≤ 1024) : fitv n = n := by unfold fitv; rw [if_pos h]
theorem fite_le {n : Nat} (h : (lim n).length ≤ 1024) : fite n = 0 := by unfold fite; rw [if_pos h]
theorem fitv_gt {n : Nat} (h : ¬ (lim n).length ≤ 1024) : fitv n = 0 := by unfold fitv; rw [if_neg h]
theorem fite_gt {n : Nat} (h : ¬ (lim n).length ≤ 1024) : fite n = 5 := by unfold fite; rw [if_neg h]

/-- An empty slice written out. -/
theorem own_empty (w : World) (t e : TypeId) : Own (w.alloc (.cells #[] e)) w.heap.size e (.slice (some ⟨w.heap.size, 0, none⟩) 0 0) [] :=
  World.ownsRow_made w #[] 0 (Nat.le_refl _) (Nat.zero_le _) rfl

set_option maxHeartbeats 1000000 in
theorem rfits_n {w : World} {va : Value} {x : Nat} {lo hi : Nat} (ha : IsN w lo hi va x) (hi1 : hi ≤ w.heap.size) :
    Calls Try.prog 42 #[va] w fun e w' => (∃ v, e = .returned (.tuple #[v, .int .i64 (fite x)]) ∧ IsN w' w.heap.size w'.heap.size v (fitv x)) ∧ Below w.heap.size w w' := by
  obtain ⟨A, c, rfl, _, _, hA⟩ := ha
  by_cases h : (lim x).length ≤ 1024
  · rw [fitv_le h, fite_le h]
    go_enter Try.func42, Try.ntmps42
    go_wp2_with (at_builtin; refine wp_appN elN rfl _ _ rfl rfl (own_empty w 30 30) rfl (cel_length _ _) (hA.alloc hi1 _) (cel_one _ _) (by simp only [List.length_nil]; omega) (by simp) ?_; intro v1 w1 hown hb hz)
    go_ret2
    exact ⟨⟨_, rfl, Own.isL (by simpa using hown)⟩, ((Below.refl _ w).alloc (Nat.le_refl _) _).trans hb⟩
  · rw [fitv_gt h, fite_gt h]
    go_enter Try.func42, Try.ntmps42
    go_wp2
    go_ret2
    exact ⟨⟨_, rfl, IsN.zero⟩, Below.refl _ _⟩
end Go.Proofs.Ytbeocfiimminiaa
