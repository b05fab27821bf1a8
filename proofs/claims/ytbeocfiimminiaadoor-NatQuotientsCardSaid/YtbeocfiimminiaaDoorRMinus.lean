/-
  The contract of the reference's Minus.
-/
import Derived.Test.YtbeocfiimminiaaDoorFit
import Derived.Test.YtbeocfiimminiaaDoorRefA
import Derived.Test.YtbeocfiimminiaaDoorPlainS
namespace Go.Proofs.YtbeocfiimminiaaDoor
open Go.RowKit
set_option linter.unusedVariables false

/-- A number in a row of the call's own, that may be written. -/
def WrN (w : World) (base : Nat) (v : Value) (n : Nat) : Prop := (v = .slice none 0 0 ∧ n = 0) ∨ ∃ g cap cur, v = .slice (some ⟨g, 0, none⟩) (lim n).length cap ∧ base ≤ g ∧ Row w g 34 cur ∧ cur.take (lim n).length = cel .u32 (lim n) ∧ (lim n).length ≤ cap ∧ cap ≤ maxLen
theorem take_sub {α : Type} {a b : List α} {n : Nat} (h : a.take n = b) : ∀ (j : Nat) (x : α), b[j]? = some x → a[j]? = some x := by
  intro j x hx
  rw [← h, List.getElem?_take] at hx
  split at hx
  · exact hx
  · cases hx
theorem WrN.isN {w : World} {base : Nat} {v : Value} {n : Nat} (h : WrN w base v n) : IsN w base w.heap.size v n := by
  rcases h with ⟨rfl, rfl⟩ | ⟨g, cap, cur, rfl, hb, hr, ht, h1, h2⟩
  · exact IsN.zero
  · exact ⟨_, cap, rfl, h1, h2, fun _ => ⟨g, 0, rfl, hb, hr.lt, fun j u hu => by rw [Nat.zero_add, hr.cell]; exact take_sub ht j u hu⟩⟩
theorem WrN.setFar {w : World} {base : Nat} {v : Value} {n : Nat} (h : WrN w base v n) {p : Addr} (hp : p.block < base) (u : Value) : WrN (w.setCell p u) base v n := by
  rcases h with h | ⟨g, cap, cur, rfl, hb, hr, ht, h1, h2⟩
  · exact .inl h
  · exact .inr ⟨g, cap, cur, rfl, hb, hr.far (by omega) u, ht, h1, h2⟩
theorem WrN.mono {w : World} {base base' : Nat} {v : Value} {n : Nat} (h : WrN w base v n) (hb : base' ≤ base) : WrN w base' v n := by
  rcases h with h | ⟨g, cap, cur, rfl, hb', hr, ht, h1, h2⟩
  · exact .inl h
  · exact .inr ⟨g, cap, cur, rfl, by omega, hr, ht, h1, h2⟩
theorem Own.wr {w : World} {base : Nat} {A : Option Addr} {len c m : Nat} {l : List Nat} (h : Own w base 34 (.slice A len c) (cel .u32 l)) (hm : m ≤ l.length) (ht : lim (val l) = l.take m) : WrN w base (.slice A m c) (val l) := by
  have hl : (lim (val l)).length = m := by rw [ht, List.length_take, Nat.min_eq_left hm]
  rcases h.2 with ⟨hv, hn⟩ | ⟨g, cap, cur, hv, hb, hh, hn, hcm, hcs, htake⟩
  · have hx : l = [] := cel_nil_iff.1 (List.eq_nil_of_length_eq_zero hn)
    subst hx
    simp only [Value.slice.injEq] at hv
    obtain ⟨rfl, _, rfl⟩ := hv
    simp at hm
    subst hm
    exact .inl ⟨rfl, rfl⟩
  · simp only [Value.slice.injEq] at hv
    obtain ⟨rfl, _, rfl⟩ := hv
    rw [cel_length] at hn htake
    refine .inr ⟨g, c, cur.toList, by rw [hl], hb, ?_, ?_, by rw [hl]; omega, hcm⟩
    · unfold Row
      simpa using hh
    · rw [hl, ht, cel_take, ← htake, Nat.mul_one, List.take_take, Nat.min_eq_left hm]

set_option maxRecDepth 100000 in
set_option maxHeartbeats 1000000 in
theorem rminus_w {w : World} {va vb : Value} {x y : Nat} {lo hi lo' hi' : Nat} (ha : IsN w lo hi va x) (hb : IsN w lo' hi' vb y) (hi1 : hi ≤ w.heap.size) (hi2 : hi' ≤ w.heap.size) (hle : y ≤ x) (hx : (lim x).length ≤ 4294967296) :
    Calls Tryd.prog 59 #[va, vb] w fun e w' => (∃ v, e = .returned v ∧ WrN w' w.heap.size v (x - y)) ∧ Below w.heap.size w w' := by
  have hab := lim_len_mono hle
  obtain ⟨A, c, rfl, _, _, hA⟩ := ha
  obtain ⟨B, d, rfl, _, _, hB⟩ := hb
  generalize hla : lim x = a at *
  generalize hlb : lim y = b at *
  have Hal : Hid (Lo a ∧ val a = x) := by rw [Hid, ← hla]; exact ⟨lo_lim x, val_lim x⟩
  have Hbl : Hid (Lo b ∧ val b = y) := by rw [Hid, ← hlb]; exact ⟨lo_lim y, val_lim y⟩
  have Hle := Lib.hid hle
  clear hla hlb hle
  generalize hBs : w.heap.size = bs at *
  have HB := Lib.hid hBs; clear hBs
  go_enter Tryd.func59, Tryd.ntmps59
  go_wp2
  go_loopw [5, 6, 7] (fun v bw i wr => ∃ (k : Nat) (L : List Nat) (q : Int), k ≤ a.length ∧ i = .int .i64 (k : Int) ∧ bw = .int .i64 q ∧ 0 ≤ q ∧ q ≤ 1 ∧ Own wr bs 34 v (cel .u32 L) ∧ Below bs w wr ∧
      Hid (L.length = k ∧ Lo L ∧ (val L : Int) = val (a.take k) - val (b.take k) + q * pw k)) (fun _ _ i _ => a.length - (intOf i).toNat)
  case atStart => exact ⟨0, [], 0, by omega, rfl, rfl, by omega, by omega, Own.nil _ _ _, Below.refl _ _, rfl, lo_nil, by simp [val]⟩
  case round =>
    obtain ⟨k, L, q, hk, rfl, rfl, hq0, hq1, hown, hbw, hrel⟩ := hrel
    have hBw : bs ≤ wr.heap.size := by have := hbw.size; have := HB.out; omega
    have hkc : k ≤ 4294967297 := by omega
    have hlen : Hid ((cel .u32 L).length ≤ 4294967297) := by rw [Hid, cel_length, hrel.out.1]; omega
    rcases Nat.lt_or_ge k a.length with hka | hka
    · obtain ⟨ba, oa, rfl, _, _, hca⟩ := (hA.below hbw hi1) (cel_ne (j := k) hka)
      obtain ⟨x1, hx1, hx10, hx11, hx1c⟩ := cell_lo (j := k) Hal.out.1 hca hka
      clear hca
      rcases Nat.lt_or_ge k b.length with hkb | hkb
      · obtain ⟨bb, ob, rfl, _, _, hcb⟩ := (hB.below hbw hi2) (cel_ne (j := k) hkb)
        obtain ⟨y1, hy1, hy10, hy11, hy1c⟩ := cell_lo (j := k) Hbl.out.1 hcb hkb
        clear hcb
        rcases Int.lt_or_le (x1 - q - y1) 0 with hneg | hpos
        · go_wp2_with (at_builtin; refine wp_app1 elN rfl _ _ rfl rfl hown rfl rfl (by have := hlen.out; omega) hBw ?_; intro v1 w1 hown1 hbw1 hz1)
          go_roundw
          case rel =>
            rw [cel_snoc .u32 L (x1 - q - y1 + 1000000000).toNat _ (by omega)] at hown1
            exact ⟨k + 1, _, 1, by omega, by go_num, rfl, by omega, by omega, hown1, hbw.trans hbw1, by rw [List.length_append]; simp [hrel.out.1], lo_snoc hrel.out.2.1 (by omega), minus_step hrel.out.1 hx1.out hy1.out (by omega) (by omega) hrel.out.2.2⟩
          case measure => simp [intOf]; omega
        · go_wp2_with (at_builtin; refine wp_app1 elN rfl _ _ rfl rfl hown rfl rfl (by have := hlen.out; omega) hBw ?_; intro v1 w1 hown1 hbw1 hz1)
          go_roundw
          case rel =>
            rw [cel_snoc .u32 L (x1 - q - y1).toNat _ (by omega)] at hown1
            exact ⟨k + 1, _, 0, by omega, by go_num, rfl, by omega, by omega, hown1, hbw.trans hbw1, by rw [List.length_append]; simp [hrel.out.1], lo_snoc hrel.out.2.1 (by omega), minus_step hrel.out.1 hx1.out hy1.out (by omega) (by omega) hrel.out.2.2⟩
          case measure => simp [intOf]; omega
      · rcases Int.lt_or_le (x1 - q) 0 with hneg | hpos
        · go_wp2_with (at_builtin; refine wp_app1 elN rfl _ _ rfl rfl hown rfl rfl (by have := hlen.out; omega) hBw ?_; intro v1 w1 hown1 hbw1 hz1)
          go_roundw
          case rel =>
            rw [cel_snoc .u32 L (x1 - q + 1000000000).toNat _ (by omega)] at hown1
            exact ⟨k + 1, _, 1, by omega, by go_num, rfl, by omega, by omega, hown1, hbw.trans hbw1, by rw [List.length_append]; simp [hrel.out.1], lo_snoc hrel.out.2.1 (by omega), minus_step (y := 0) hrel.out.1 hx1.out (by rw [getD_end hkb]; rfl) (by omega) (by omega) hrel.out.2.2⟩
          case measure => simp [intOf]; omega
        · go_wp2_with (at_builtin; refine wp_app1 elN rfl _ _ rfl rfl hown rfl rfl (by have := hlen.out; omega) hBw ?_; intro v1 w1 hown1 hbw1 hz1)
          go_roundw
          case rel =>
            rw [cel_snoc .u32 L (x1 - q).toNat _ (by omega)] at hown1
            exact ⟨k + 1, _, 0, by omega, by go_num, rfl, by omega, by omega, hown1, hbw.trans hbw1, by rw [List.length_append]; simp [hrel.out.1], lo_snoc hrel.out.2.1 (by omega), minus_step (y := 0) hrel.out.1 hx1.out (by rw [getD_end hkb]; rfl) (by omega) (by omega) hrel.out.2.2⟩
          case measure => simp [intOf]; omega
    · obtain rfl : k = a.length := by omega
      have hv : Hid (val L = x - y) := by
        have h := sub_end (L := L) (b := b) (bw := q) hrel.out.1 rfl hab hrel.out.2.1 (by omega) (by rw [Hal.out.2, Hbl.out.2]; exact Hle.out) (by rw [val_take_all (l := L) (Nat.le_of_eq hrel.out.1)]; exact hrel.out.2.2)
        rw [Hal.out.2, Hbl.out.2] at h
        exact h
      have hlo := Lib.hid hrel.out.2.1
      obtain ⟨A', c', hv', h1, h2, h3⟩ := hown.sl
      subst hv'
      rw [cel_length] at h1
      have Hown := Lib.hid hown
      have H1 := Lib.hid h1
      have H2 := Lib.hid h2
      have H3 := Lib.hid h3
      clear hown hrel h1 h2 h3
      rw [cel_length] at Hown ⊢
      go_wp2_with fail
      refine (rtrim_same A' c' L wr bs wr.heap.size hlo.out H1.out H2.out H3.out).mono ?_
      rintro e w2 ⟨⟨m, rfl, hm, ht⟩, rfl⟩
      have Ht := Lib.hid ht
      clear ht
      go_wp2_with fail
      go_ret
      refine ⟨⟨_, rfl, ?_⟩, hbw⟩
      rw [← hv.out]
      exact Own.wr Hown.out hm Ht.out

theorem rminus_n {w : World} {va vb : Value} {x y : Nat} {lo hi lo' hi' : Nat} (ha : IsN w lo hi va x) (hb : IsN w lo' hi' vb y) (hi1 : hi ≤ w.heap.size) (hi2 : hi' ≤ w.heap.size) (hle : y ≤ x) (hx : (lim x).length ≤ 4294967296) :
    Calls Tryd.prog 59 #[va, vb] w fun e w' => (∃ v, e = .returned v ∧ IsN w' w.heap.size w'.heap.size v (x - y)) ∧ Below w.heap.size w w' :=
  (rminus_w ha hb hi1 hi2 hle hx).mono fun e w' ⟨⟨v, he, hv⟩, hw⟩ => ⟨⟨v, he, hv.isN⟩, hw⟩
end Go.Proofs.YtbeocfiimminiaaDoor
