/-
  The zau of the reference's trim.
-/
import Derived.Test.YtjkgdggkgljdoaaDoorVinv04
import Derived.Test.YtjkgdggkgljdoaaDoorVinv06
import Derived.Test.YtjkgdggkgljdoaaDoorVinv01
import Derived.Deep.RegionLaw
import Derived.Test.YtjkgdggkgljdoaaDoorVinv03
import Derived.Lib.ConvBytes
namespace Go.Proofs.YtjkgdggkgljdoaaDoor
open Go.RowKit
set_option linter.unusedVariables false
set_option maxHeartbeats 400000 in
theorem rtrim_same (A : Option Addr) (c : Nat) (l : List Nat) (w : World) (lo hi : Nat) (hl : Lo l) (hll : l.length ≤ c) (hlc : c ≤ maxLen) (hA : SV w lo hi A (cel .u32 l)) :
    Calls Tryd.prog 112 #[.slice A l.length c] w fun e w' => (∃ m, e = .returned (.slice A m c) ∧ m ≤ l.length ∧ lim (val l) = l.take m) ∧ w = w' := by
  have Hlc2 := Lib.hid hlc
  unfold maxLen at hlc
  have Hl := Lib.hid hl; clear hl
  go_enter Tryd.func112, Tryd.ntmps112
  go_wp2
  go_loop [0] (fun s => ∃ m : Nat, m ≤ l.length ∧ s = .slice A m c ∧ Hid (∀ j, m ≤ j → j < l.length → l.getD j 0 = 0)) (fun s => match s with | .slice _ m _ => m | _ => 0)
  case atStart => exact ⟨l.length, Nat.le_refl _, rfl, Lib.hid (by intro j h1 h2; omega)⟩
  case round =>
    obtain ⟨m, hm, rfl, hz⟩ := hrel
    rcases m with _ | m
    · go_wp2
      go_ret
      exact ⟨⟨0, rfl, Nat.zero_le _, trim_to Hl.out (Nat.zero_le _) hz.out (.inl rfl)⟩, rfl⟩
    · obtain ⟨ba, oa, rfl, _, _, hca⟩ := hA (zbm hm)
      obtain ⟨x, hx, hx0, hxc⟩ := zen (j := m) hca (by omega)
      clear hca
      by_cases h0 : x = 0
      · subst h0
        go_wp2
        go_round
        case rel => exact ⟨m, by omega, rfl, Lib.hid (by
          intro j h1 h2
          rcases Nat.eq_or_lt_of_le h1 with h3 | h3
          · subst h3; have := hx.out; omega
          · exact hz.out j h3 h2)⟩
        case measure => simp
      · have hb : (x == 0) = false := by simpa using h0
        go_wp2
        go_ret
        exact ⟨⟨m + 1, rfl, hm, trim_to Hl.out hm hz.out (.inr (by have := hx.out; simp only [Nat.add_sub_cancel]; omega))⟩, rfl⟩
theorem rtrim_list (A : Option Addr) (c : Nat) (l : List Nat) (w : World) (lo hi : Nat) (hl : Lo l) (hll : l.length ≤ c) (hlc : c ≤ maxLen) (hA : SV w lo hi A (cel .u32 l)) :
    Calls Tryd.prog 112 #[.slice A l.length c] w fun e w' => (∃ v, e = .returned v ∧ IsN w lo hi v (val l)) ∧ w = w' :=
  (rtrim_same A c l w lo hi hl hll hlc hA).mono fun e w' ⟨⟨m, he, hm, ht⟩, hw⟩ => ⟨⟨_, he, A, c, by rw [ht, List.length_take, Nat.min_eq_left hm], by rw [ht, List.length_take]; omega, hlc, by rw [ht, cel_take]; exact hA.take m⟩, hw⟩
theorem rtrim_l {w : World} {va : Value} {l : List Nat} {lo hi : Nat} (ha : IsL .u32 w lo hi va l) (hl : Lo l) :
    Calls Tryd.prog 112 #[va] w fun e w' => (∃ v, e = .returned v ∧ IsN w lo hi v (val l)) ∧ w = w' := by
  obtain ⟨A, c, rfl, hc, hcm, hA⟩ := ha
  exact rtrim_list A c l w lo hi hl hc hcm hA
set_option maxRecDepth 100000 in
set_option maxHeartbeats 1000000 in
theorem rplus_n {w : World} {va vb : Value} {x y : Nat} {lo hi lo' hi' : Nat} (ha : IsN w lo hi va x) (hb : IsN w lo' hi' vb y) (hi1 : hi ≤ w.heap.size) (hi2 : hi' ≤ w.heap.size) (hx : (lim x).length ≤ 4294967296) (hy : (lim y).length ≤ 4294967296) :
    Calls Tryd.prog 81 #[va, vb] w fun e w' => (∃ v, e = .returned v ∧ IsN w' w.heap.size w'.heap.size v (x + y)) ∧ Below w.heap.size w w' := by
  obtain ⟨A, c, rfl, _, _, hA⟩ := ha
  obtain ⟨B, d, rfl, _, _, hB⟩ := hb
  obtain ⟨M, hM1, hM2, hM3⟩ : ∃ M : Nat, (lim x).length ≤ M ∧ (lim y).length ≤ M ∧ (M = (lim x).length ∨ M = (lim y).length) := ⟨max (lim x).length (lim y).length, by omega, by omega, by omega⟩
  have hM : Hid (∀ k, k < M → pw k ≤ x + y) := by
    intro k hk
    rcases hM3 with h | h
    · have := zfe (x := x) (k := k) (by omega); omega
    · have := zfe (x := y) (k := k) (by omega); omega
  generalize hla : lim x = a at *
  generalize hlb : lim y = b at *
  have Hal : Hid (Lo a ∧ val a = x) := by rw [Hid, ← hla]; exact ⟨zbh x, zbf x⟩
  have Hbl : Hid (Lo b ∧ val b = y) := by rw [Hid, ← hlb]; exact ⟨zbh y, zbf y⟩
  have hM4 : M ≤ 4294967296 := by omega
  clear hla hlb hM3
  generalize hBs : w.heap.size = bs at *
  have HB := Lib.hid hBs; clear hBs
  go_enter Tryd.func81, Tryd.ntmps81
  go_wp2
  go_loopw [5, 6, 7] (fun v cy i wr => ∃ (k : Nat) (L : List Nat) (q : Int), k ≤ M + 1 ∧ i = .int .i64 (k : Int) ∧ cy = .int .u32 q ∧ 0 ≤ q ∧ q ≤ 1 ∧ Own wr bs 94 v (cel .u32 L) ∧ Below bs w wr ∧
      Hid (L.length = k ∧ Lo L ∧ (val L : Int) + q * pw k = val (a.take k) + val (b.take k) ∧ (M < k → q = 0 ∧ pw M ≤ val L))) (fun _ _ i _ => M + 1 - (intOf i).toNat)
  case atStart => exact ⟨0, [], 0, by omega, rfl, rfl, by omega, by omega, Own.nil _ _ _, Below.refl _ _, rfl, lo_nil, by simp [val], fun h => by omega⟩
  case round =>
    obtain ⟨k, L, q, hk, rfl, rfl, hq0, hq1, hown, hbw, hrel⟩ := hrel
    have hBw : bs ≤ wr.heap.size := by have := hbw.size; have := HB.out; omega
    have hkc : k ≤ 4294967297 := by omega
    have hlen : Hid ((cel .u32 L).length ≤ 4294967297) := by rw [Hid, zbo, hrel.out.1]; omega
    rcases Nat.lt_or_ge k a.length with hka | hka
    · obtain ⟨ba, oa, rfl, _, _, hca⟩ := (hA.below hbw hi1) (zbm (j := k) hka)
      obtain ⟨x1, hx1, hx10, hx11, hx1c⟩ := zbl (j := k) Hal.out.1 hca hka
      clear hca
      rcases Nat.lt_or_ge k b.length with hkb | hkb
      · obtain ⟨bb, ob, rfl, _, _, hcb⟩ := (hB.below hbw hi2) (zbm (j := k) hkb)
        obtain ⟨y1, hy1, hy10, hy11, hy1c⟩ := zbl (j := k) Hbl.out.1 hcb hkb
        clear hcb
        go_wp2_with (at_builtin; refine zco elN rfl _ _ rfl rfl hown rfl rfl (by have := hlen.out; omega) hBw ?_; intro v1 w1 hown1 hbw1 hz1)
        go_roundw
        case rel =>
          rw [zbw .u32 L ((q + x1 + y1) % 1000000000).toNat _ (by omega)] at hown1
          exact ⟨k + 1, _, (q + x1 + y1) / 1000000000, by omega, by go_num, rfl, by omega, by omega, hown1, hbw.trans hbw1, by rw [List.length_append]; simp [hrel.out.1], zcw hrel.out.2.1 (by omega), zct hrel.out.1 hx1.out hy1.out (by omega) (by omega) hrel.out.2.2.1, fun h => by omega⟩
        case measure => simp [intOf]; omega
      · go_wp2_with (at_builtin; refine zco elN rfl _ _ rfl rfl hown rfl rfl (by have := hlen.out; omega) hBw ?_; intro v1 w1 hown1 hbw1 hz1)
        go_roundw
        case rel =>
          rw [zbw .u32 L ((q + x1) % 1000000000).toNat _ (by omega)] at hown1
          exact ⟨k + 1, _, (q + x1) / 1000000000, by omega, by go_num, rfl, by omega, by omega, hown1, hbw.trans hbw1, by rw [List.length_append]; simp [hrel.out.1], zcw hrel.out.2.1 (by omega), zct (y := 0) hrel.out.1 hx1.out (by rw [zck hkb]; rfl) (by omega) (by omega) hrel.out.2.2.1, fun h => by omega⟩
        case measure => simp [intOf]; omega
    · rcases Nat.lt_or_ge k b.length with hkb | hkb
      · obtain ⟨bb, ob, rfl, _, _, hcb⟩ := (hB.below hbw hi2) (zbm (j := k) hkb)
        obtain ⟨y1, hy1, hy10, hy11, hy1c⟩ := zbl (j := k) Hbl.out.1 hcb hkb
        clear hcb
        go_wp2_with (at_builtin; refine zco elN rfl _ _ rfl rfl hown rfl rfl (by have := hlen.out; omega) hBw ?_; intro v1 w1 hown1 hbw1 hz1)
        go_roundw
        case rel =>
          rw [zbw .u32 L ((q + y1) % 1000000000).toNat _ (by omega)] at hown1
          exact ⟨k + 1, _, (q + y1) / 1000000000, by omega, by go_num, rfl, by omega, by omega, hown1, hbw.trans hbw1, by rw [List.length_append]; simp [hrel.out.1], zcw hrel.out.2.1 (by omega), zct (x := 0) hrel.out.1 (by rw [zck hka]; rfl) hy1.out (by omega) (by omega) hrel.out.2.2.1, fun h => by omega⟩
        case measure => simp [intOf]; omega
      · have hV : Hid ((val L : Int) + q * pw k = x + y) := by
          have := hrel.out.2.2.1
          rw [zav hka, zav hkb, Hal.out.2, Hbl.out.2] at this
          exact this
        rcases Int.lt_or_le 0 q with hqp | hqz
        · have hkM : k ≤ M := by
            rcases Nat.lt_or_ge M k with h | h
            · have := hrel.out.2.2.2 h; omega
            · exact h
          go_wp2_with (at_builtin; refine zco elN rfl _ _ rfl rfl hown rfl rfl (by have := hlen.out; omega) hBw ?_; intro v1 w1 hown1 hbw1 hz1)
          go_roundw
          case rel =>
            rw [zbw .u32 L (q % 1000000000).toNat _ (by omega)] at hown1
            refine ⟨k + 1, _, q / 1000000000, by omega, by go_num, rfl, by omega, by omega, hown1, hbw.trans hbw1, by rw [List.length_append]; simp [hrel.out.1], zcw hrel.out.2.1 (by omega), zct (x := 0) (y := 0) hrel.out.1 (by rw [zck hka]; rfl) (by rw [zck hkb]; rfl) (by omega) (by omega) hrel.out.2.2.1, fun h => ⟨by omega, ?_⟩⟩
            rw [zbx, hrel.out.1, show (q % 1000000000).toNat = 1 from by omega, show k = M from by omega, zfi, zez]
            omega
          case measure => simp [intOf]; omega
        · obtain rfl : q = 0 := by omega
          have hfin : Hid (lim (x + y) = L) := by
            have h1 : val L = x + y := by have := hV.out; omega
            rw [Hid, ← h1]
            refine zet hrel.out.2.1 ?_
            rcases Nat.lt_or_ge M k with h | h
            · exact .inr (by rw [hrel.out.1, show k - 1 = M from by omega]; exact (hrel.out.2.2.2 h).2)
            · rcases Nat.eq_zero_or_pos k with h0 | h0
              · exact .inl (List.eq_nil_of_length_eq_zero (by rw [hrel.out.1]; exact h0))
              · exact .inr (by rw [hrel.out.1, h1]; exact hM.out (k - 1) (by omega))
          go_wp2
          go_ret
          refine ⟨⟨_, rfl, ?_⟩, hbw⟩
          unfold IsN
          rw [hfin.out]
          exact Own.isL hown
set_option maxRecDepth 100000 in
set_option maxHeartbeats 1000000 in
theorem rtimes_n {w : World} {va vb : Value} {x y : Nat} {lo hi lo' hi' : Nat} (ha : IsN w lo hi va x) (hb : IsN w lo' hi' vb y) (hi1 : hi ≤ w.heap.size) (hi2 : hi' ≤ w.heap.size) (hx : (lim x).length ≤ 4294967296) (hy : (lim y).length ≤ 4294967296) :
    Calls Tryd.prog 79 #[va, vb] w fun e w' => (∃ v, e = .returned v ∧ IsN w' w.heap.size w'.heap.size v (x * y)) ∧ Below w.heap.size w w' := by
  obtain ⟨A, c, rfl, _, _, hA⟩ := ha
  obtain ⟨B, d, rfl, _, _, hB⟩ := hb
  generalize hla : lim x = a at *
  generalize hlb : lim y = b at *
  have Hal : Hid (Lo a ∧ val a = x) := by rw [Hid, ← hla]; exact ⟨zbh x, zbf x⟩
  have Hbl : Hid (Lo b ∧ val b = y) := by rw [Hid, ← hlb]; exact ⟨zbh y, zbf y⟩
  clear hla hlb
  go_enter Tryd.func79, Tryd.ntmps79
  go_wp2_with (at_make; refine wp_make elN rfl _ _ rfl (a.length + b.length) rfl rfl rfl rfl (by omega) ?_; intro G w1 hG hrow hb1 hz1)
  go_loopw [6] (fun i wr => ∃ k : Nat, ∃ L : List Nat, k ≤ a.length ∧ i = .int .i64 (k : Int) ∧ Row wr G 94 (cel .u32 L) ∧ Below G w wr ∧ Hid (wr.heap.size = G + 1) ∧
      Hid (L.length = a.length + b.length ∧ Lo L ∧ (∀ j, k + b.length ≤ j → L.getD j 0 = 0) ∧ val L = val (a.take k) * val b)) (fun i _ => a.length - (intOf i).toNat)
  case atStart => exact ⟨0, _, Nat.zero_le _, rfl, hrow, hb1, hz1, by simp, zcq _, fun j _ => by rw [List.getD_eq_getElem?_getD, List.getElem?_replicate]; split <;> rfl, by rw [val_nil_take, Nat.zero_mul]; exact val_zeros (fun x hx => (List.mem_replicate.1 hx).2)⟩
  case round =>
    obtain ⟨k, L, hk, rfl, hr, hbw, hsz, hrel⟩ := hrel
    have hbw' : Below w.heap.size w wr := by have := hG.out; subst this; exact hbw
    rcases Nat.lt_or_ge k a.length with hlt | hge
    · obtain ⟨ba, oa, rfl, _, _, _⟩ := hA (zbm (j := k) hlt)
      have HR := hrel; clear hrel
      obtain ⟨wo, rfl⟩ : ∃ wo : World, wo = wr := ⟨_, rfl⟩
      go_wp2
      go_loopw [7, 8] (fun cr i wi => ∃ j : Nat, ∃ M : List Nat, ∃ cy : Int, j ≤ b.length ∧ i = .int .i64 (j : Int) ∧ cr = .int .u64 cy ∧ 0 ≤ cy ∧ cy ≤ 999999999 ∧ Row wi G 94 (cel .u32 M) ∧ Below G w wi ∧ Hid (wi.heap.size = G + 1) ∧
          Hid (M.length = a.length + b.length ∧ Lo M ∧ (∀ j, k + b.length ≤ j → M.getD j 0 = 0) ∧ (val M : Int) + cy * pw (k + j) = val L + ((a.getD k 0 : Nat) : Int) * pw k * val (b.take j))) (fun _ i _ => b.length - (intOf i).toNat)
      case atStart => exact ⟨0, L, 0, Nat.zero_le _, rfl, rfl, by omega, by omega, hr, hbw, hsz, HR.out.1, HR.out.2.1, HR.out.2.2.1, by simp [val]⟩
      case round =>
        clear hr hbw hbw' hsz
        obtain ⟨j, M, cy, hj, rfl, rfl, hcy0, hcy1, hr, hbw, hsz, hrel⟩ := hrel
        have hbw' : Below w.heap.size w wr := by have := hG.out; subst this; exact hbw
        have hkM : Hid (k + b.length < M.length) := by rw [hrel.out.1]; unfold Hid; omega
        rcases Nat.lt_or_ge j b.length with hjl | hjg
        · obtain ⟨x, hx, hx0, hx1, hxc⟩ := zbl (j := k) Hal.out.1 (hA.below hbw' hi1).at_ hlt
          obtain ⟨bb, ob, rfl, _, _, hcb⟩ := (hB.below hbw' hi2) (zbm (j := j) hjl)
          obtain ⟨y, hy, hy0, hy1, hyc⟩ := zbl (j := j) Hbl.out.1 hcb hjl
          clear hcb
          obtain ⟨z, hz, hz0, hz1, hzc⟩ := hr.lo hrel.out.2.1 (i := k + j) (by have := hkM.out; omega)
          have hzf := hr.frozen (k + j)
          have hxy := zce hx0 hx1 hy0 hy1
          have hxy0 := hxy.1
          have hxy1 := hxy.2
          clear hxy
          go_wp2
          go_quiet (fail)
          go_wp2
          go_roundw
          case rel =>
            refine ⟨j + 1, M.set (k + j) ((cy + z + x * y) % 1000000000).toNat, (cy + z + x * y) / 1000000000, by omega, by go_num, rfl, by omega, by omega, (hr.drewN _).setNum (k + j) _ _ (by omega), (below_drewN hbw _).setCell (Nat.le_refl _) _,
              by have := hsz.out; simpa [Hid, World.setCell] using this, by rw [List.length_set]; exact hrel.out.1, zcc hrel.out.2.1 (by omega), fun i hi => by rw [zbq (by omega)]; exact hrel.out.2.2.1 i hi, ?_⟩
            rw [← hx.out]
            exact mul_step (by have := hkM.out; omega) hy.out hz.out (t := cy + z + x * y) (c := cy) (c' := (cy + z + x * y) / 1000000000) (r := (cy + z + x * y) % 1000000000) (by omega) (by omega) (by omega) (by rw [hx.out]; exact hrel.out.2.2.2)
          case measure => simp [intOf]; omega
        · obtain rfl : j = b.length := by omega
          obtain ⟨z, hz, hz0, hzc⟩ := hr.num (i := k + b.length) hkM.out
          have hzf := hr.frozen (k + b.length)
          go_wp2
          go_roundw
          case rel =>
            exact ⟨k + 1, M.set (k + b.length) cy.toNat, by omega, by go_num, hr.setNum (k + b.length) _ _ (by omega), hbw.setCell (Nat.le_refl _) _,
              by have := hsz.out; simpa [Hid, World.setCell] using this, by rw [List.length_set]; exact hrel.out.1, zcc hrel.out.2.1 (by omega), fun i hi => by rw [zbq (by omega)]; exact hrel.out.2.2.1 i (by omega),
              mul_row rfl hkM.out rfl (hrel.out.2.2.1 _ (Nat.le_refl _)) hcy0 HR.out.2.2.2 hrel.out.2.2.2⟩
          case measure => simp [intOf]; omega
    · obtain rfl : k = a.length := by omega
      have H1 : Hid (Row wr G 94 (cel .u32 L) ∧ val L = x * y ∧ L.length = a.length + b.length ∧ Lo L) := ⟨hr, by have := hrel.out.2.2.2; rw [zav (Nat.le_refl _), Hal.out.2, Hbl.out.2] at this; exact this, hrel.out.1, hrel.out.2.1⟩
      clear hr hrel
      go_wp2_with fail
      rw [← H1.out.2.2.1]
      refine (rtrim_list _ _ L wr G (G + 1) H1.out.2.2.2 (Nat.le_refl _) (by have := H1.out.2.2.1; unfold maxLen; omega) H1.out.1.sv).mono ?_
      rintro e w2 ⟨⟨v, rfl, hv⟩, rfl⟩
      go_wp2_with fail
      go_ret
      refine ⟨⟨_, rfl, ?_⟩, hbw'⟩
      rw [← H1.out.2.1]
      exact hv.wide (by have := hG.out; omega) (by have := hsz.out; omega)
def WrN (w : World) (base : Nat) (v : Value) (n : Nat) : Prop := (v = .slice none 0 0 ∧ n = 0) ∨ ∃ g cap cur, v = .slice (some ⟨g, 0, none⟩) (lim n).length cap ∧ base ≤ g ∧ Row w g 94 cur ∧ cur.take (lim n).length = cel .u32 (lim n) ∧ (lim n).length ≤ cap ∧ cap ≤ maxLen
theorem take_sub {α : Type} {a b : List α} {n : Nat} (h : a.take n = b) : ∀ (j : Nat) (x : α), b[j]? = some x → a[j]? = some x := by
  intro j x hx
  rw [← h, List.getElem?_take] at hx
  split at hx
  · exact hx
  · cases hx
theorem WrN.isN {w : World} {base : Nat} {v : Value} {n : Nat} (h : WrN w base v n) : IsN w base w.heap.size v n := by
  rcases h with ⟨rfl, rfl⟩ | ⟨g, cap, cur, rfl, hb, hr, ht, h1, h2⟩
  · exact IsN.zero
  · exact ⟨_, cap, rfl, h1, h2, fun _ => ⟨g, 0, rfl, hb, hr.lt, fun j u hu => by rw [Nat.zero_add, hr.cell]; exact take_sub ht j u hu⟩⟩
theorem WrN.setFar {w : World} {base : Nat} {v : Value} {n : Nat} (h : WrN w base v n) {p : Addr} (hp : p.block < base) (u : Value) : WrN (w.setCell p u) base v n := by
  rcases h with h | ⟨g, cap, cur, rfl, hb, hr, ht, h1, h2⟩
  · exact .inl h
  · exact .inr ⟨g, cap, cur, rfl, hb, hr.far (by omega) u, ht, h1, h2⟩
theorem WrN.mono {w : World} {base base' : Nat} {v : Value} {n : Nat} (h : WrN w base v n) (hb : base' ≤ base) : WrN w base' v n := by
  rcases h with h | ⟨g, cap, cur, rfl, hb', hr, ht, h1, h2⟩
  · exact .inl h
  · exact .inr ⟨g, cap, cur, rfl, by omega, hr, ht, h1, h2⟩
theorem Own.wr {w : World} {base : Nat} {A : Option Addr} {len c m : Nat} {l : List Nat} (h : Own w base 94 (.slice A len c) (cel .u32 l)) (hm : m ≤ l.length) (ht : lim (val l) = l.take m) : WrN w base (.slice A m c) (val l) := by
  have hl : (lim (val l)).length = m := by rw [ht, List.length_take, Nat.min_eq_left hm]
  rcases h.2 with ⟨hv, hn⟩ | ⟨g, cap, cur, hv, hb, hh, hn, hcm, hcs, htake⟩
  · have hx : l = [] := cel_nil_iff.1 (List.eq_nil_of_length_eq_zero hn)
    subst hx
    simp only [Value.slice.injEq] at hv
    obtain ⟨rfl, _, rfl⟩ := hv
    simp at hm
    subst hm
    exact .inl ⟨rfl, rfl⟩
  · simp only [Value.slice.injEq] at hv
    obtain ⟨rfl, _, rfl⟩ := hv
    rw [zbo] at hn htake
    refine .inr ⟨g, c, cur.toList, by rw [hl], hb, ?_, ?_, by rw [hl]; omega, hcm⟩
    · unfold Row
      simpa using hh
    · rw [hl, ht, cel_take, ← htake, Nat.mul_one, List.take_take, Nat.min_eq_left hm]
set_option maxRecDepth 100000 in
set_option maxHeartbeats 1000000 in
theorem rminus_w {w : World} {va vb : Value} {x y : Nat} {lo hi lo' hi' : Nat} (ha : IsN w lo hi va x) (hb : IsN w lo' hi' vb y) (hi1 : hi ≤ w.heap.size) (hi2 : hi' ≤ w.heap.size) (hle : y ≤ x) (hx : (lim x).length ≤ 4294967296) :
    Calls Tryd.prog 83 #[va, vb] w fun e w' => (∃ v, e = .returned v ∧ WrN w' w.heap.size v (x - y)) ∧ Below w.heap.size w w' := by
  have hab := zas hle
  obtain ⟨A, c, rfl, _, _, hA⟩ := ha
  obtain ⟨B, d, rfl, _, _, hB⟩ := hb
  generalize hla : lim x = a at *
  generalize hlb : lim y = b at *
  have Hal : Hid (Lo a ∧ val a = x) := by rw [Hid, ← hla]; exact ⟨zbh x, zbf x⟩
  have Hbl : Hid (Lo b ∧ val b = y) := by rw [Hid, ← hlb]; exact ⟨zbh y, zbf y⟩
  have Hle := Lib.hid hle
  clear hla hlb hle
  generalize hBs : w.heap.size = bs at *
  have HB := Lib.hid hBs; clear hBs
  go_enter Tryd.func83, Tryd.ntmps83
  go_wp2
  go_loopw [5, 6, 7] (fun v bw i wr => ∃ (k : Nat) (L : List Nat) (q : Int), k ≤ a.length ∧ i = .int .i64 (k : Int) ∧ bw = .int .i64 q ∧ 0 ≤ q ∧ q ≤ 1 ∧ Own wr bs 94 v (cel .u32 L) ∧ Below bs w wr ∧
      Hid (L.length = k ∧ Lo L ∧ (val L : Int) = val (a.take k) - val (b.take k) + q * pw k)) (fun _ _ i _ => a.length - (intOf i).toNat)
  case atStart => exact ⟨0, [], 0, by omega, rfl, rfl, by omega, by omega, Own.nil _ _ _, Below.refl _ _, rfl, lo_nil, by simp [val]⟩
  case round =>
    obtain ⟨k, L, q, hk, rfl, rfl, hq0, hq1, hown, hbw, hrel⟩ := hrel
    have hBw : bs ≤ wr.heap.size := by have := hbw.size; have := HB.out; omega
    have hkc : k ≤ 4294967297 := by omega
    have hlen : Hid ((cel .u32 L).length ≤ 4294967297) := by rw [Hid, zbo, hrel.out.1]; omega
    rcases Nat.lt_or_ge k a.length with hka | hka
    · obtain ⟨ba, oa, rfl, _, _, hca⟩ := (hA.below hbw hi1) (zbm (j := k) hka)
      obtain ⟨x1, hx1, hx10, hx11, hx1c⟩ := zbl (j := k) Hal.out.1 hca hka
      clear hca
      rcases Nat.lt_or_ge k b.length with hkb | hkb
      · obtain ⟨bb, ob, rfl, _, _, hcb⟩ := (hB.below hbw hi2) (zbm (j := k) hkb)
        obtain ⟨y1, hy1, hy10, hy11, hy1c⟩ := zbl (j := k) Hbl.out.1 hcb hkb
        clear hcb
        rcases Int.lt_or_le (x1 - q - y1) 0 with hneg | hpos
        · go_wp2_with (at_builtin; refine zco elN rfl _ _ rfl rfl hown rfl rfl (by have := hlen.out; omega) hBw ?_; intro v1 w1 hown1 hbw1 hz1)
          go_roundw
          case rel =>
            rw [zbw .u32 L (x1 - q - y1 + 1000000000).toNat _ (by omega)] at hown1
            exact ⟨k + 1, _, 1, by omega, by go_num, rfl, by omega, by omega, hown1, hbw.trans hbw1, by rw [List.length_append]; simp [hrel.out.1], zcw hrel.out.2.1 (by omega), minus_step hrel.out.1 hx1.out hy1.out (by omega) (by omega) hrel.out.2.2⟩
          case measure => simp [intOf]; omega
        · go_wp2_with (at_builtin; refine zco elN rfl _ _ rfl rfl hown rfl rfl (by have := hlen.out; omega) hBw ?_; intro v1 w1 hown1 hbw1 hz1)
          go_roundw
          case rel =>
            rw [zbw .u32 L (x1 - q - y1).toNat _ (by omega)] at hown1
            exact ⟨k + 1, _, 0, by omega, by go_num, rfl, by omega, by omega, hown1, hbw.trans hbw1, by rw [List.length_append]; simp [hrel.out.1], zcw hrel.out.2.1 (by omega), minus_step hrel.out.1 hx1.out hy1.out (by omega) (by omega) hrel.out.2.2⟩
          case measure => simp [intOf]; omega
      · rcases Int.lt_or_le (x1 - q) 0 with hneg | hpos
        · go_wp2_with (at_builtin; refine zco elN rfl _ _ rfl rfl hown rfl rfl (by have := hlen.out; omega) hBw ?_; intro v1 w1 hown1 hbw1 hz1)
          go_roundw
          case rel =>
            rw [zbw .u32 L (x1 - q + 1000000000).toNat _ (by omega)] at hown1
            exact ⟨k + 1, _, 1, by omega, by go_num, rfl, by omega, by omega, hown1, hbw.trans hbw1, by rw [List.length_append]; simp [hrel.out.1], zcw hrel.out.2.1 (by omega), minus_step (y := 0) hrel.out.1 hx1.out (by rw [zck hkb]; rfl) (by omega) (by omega) hrel.out.2.2⟩
          case measure => simp [intOf]; omega
        · go_wp2_with (at_builtin; refine zco elN rfl _ _ rfl rfl hown rfl rfl (by have := hlen.out; omega) hBw ?_; intro v1 w1 hown1 hbw1 hz1)
          go_roundw
          case rel =>
            rw [zbw .u32 L (x1 - q).toNat _ (by omega)] at hown1
            exact ⟨k + 1, _, 0, by omega, by go_num, rfl, by omega, by omega, hown1, hbw.trans hbw1, by rw [List.length_append]; simp [hrel.out.1], zcw hrel.out.2.1 (by omega), minus_step (y := 0) hrel.out.1 hx1.out (by rw [zck hkb]; rfl) (by omega) (by omega) hrel.out.2.2⟩
          case measure => simp [intOf]; omega
    · obtain rfl : k = a.length := by omega
      have hv : Hid (val L = x - y) := by
        have h := sub_end (L := L) (b := b) (bw := q) hrel.out.1 rfl hab hrel.out.2.1 (by omega) (by rw [Hal.out.2, Hbl.out.2]; exact Hle.out) (by rw [zav (l := L) (Nat.le_of_eq hrel.out.1)]; exact hrel.out.2.2)
        rw [Hal.out.2, Hbl.out.2] at h
        exact h
      have hlo := Lib.hid hrel.out.2.1
      obtain ⟨A', c', hv', h1, h2, h3⟩ := hown.sl
      subst hv'
      rw [zbo] at h1
      have Hown := Lib.hid hown
      have H1 := Lib.hid h1
      have H2 := Lib.hid h2
      have H3 := Lib.hid h3
      clear hown hrel h1 h2 h3
      rw [zbo] at Hown ⊢
      go_wp2_with fail
      refine (rtrim_same A' c' L wr bs wr.heap.size hlo.out H1.out H2.out H3.out).mono ?_
      rintro e w2 ⟨⟨m, rfl, hm, ht⟩, rfl⟩
      have Ht := Lib.hid ht
      clear ht
      go_wp2_with fail
      go_ret
      refine ⟨⟨_, rfl, ?_⟩, hbw⟩
      rw [← hv.out]
      exact Own.wr Hown.out hm Ht.out
theorem rminus_n {w : World} {va vb : Value} {x y : Nat} {lo hi lo' hi' : Nat} (ha : IsN w lo hi va x) (hb : IsN w lo' hi' vb y) (hi1 : hi ≤ w.heap.size) (hi2 : hi' ≤ w.heap.size) (hle : y ≤ x) (hx : (lim x).length ≤ 4294967296) :
    Calls Tryd.prog 83 #[va, vb] w fun e w' => (∃ v, e = .returned v ∧ IsN w' w.heap.size w'.heap.size v (x - y)) ∧ Below w.heap.size w w' :=
  (rminus_w ha hb hi1 hi2 hle hx).mono fun e w' ⟨⟨v, he, hv⟩, hw⟩ => ⟨⟨v, he, hv.isN⟩, hw⟩
set_option maxHeartbeats 400000 in
theorem rorder_list (A B : Option Addr) (c d : Nat) (a b : List Nat) (w : World) (lo hi lo' hi' : Nat) (ha : Lo a) (hb : Lo b) (hal : a.length ≤ maxLen) (hbl : b.length ≤ maxLen) (hA : SV w lo hi A (cel .u32 a)) (hB : SV w lo' hi' B (cel .u32 b))
    (r : Int) (hr1 : a.length < b.length → r = -1) (hr2 : b.length < a.length → r = 1) (hr3 : a.length = b.length → r = sgn (val a) (val b)) :
    Calls Tryd.prog 82 #[.slice A a.length c, .slice B b.length d] w fun e w' => e = .returned (.int .i64 r) ∧ Dr w w' := by
  unfold maxLen at hal hbl
  have Ha := Lib.hid ha; clear ha
  have Hb := Lib.hid hb; clear hb
  have Hr3 := Lib.hid hr3; clear hr3
  rcases Nat.lt_trichotomy a.length b.length with h | h | h
  · have Hr := Lib.hid (hr1 h); clear hr1 hr2
    go_enter Tryd.func82, Tryd.ntmps82
    go_wp2
    go_ret
    exact ⟨zbb Hr.out.symm, Dr.refl w⟩
  · have Hr := Lib.hid (Hr3.out h); clear hr1 hr2 Hr3
    have hne : (((a.length : Int)) != (b.length : Int)) = false := by simp [h]
    have H := Lib.hid h
    have h1 : a.length ≤ b.length := by omega
    have h2 : b.length ≤ a.length := by omega
    clear h
    go_enter Tryd.func82, Tryd.ntmps82
    go_wp2
    go_loopw [5] (fun i wr => ∃ k : Nat, k ≤ a.length ∧ i = .int .i64 ((k : Int) - 1) ∧ Dr w wr ∧ Hid (a.drop k = b.drop k)) (fun i _ => (intOf i + 1).toNat)
    case atStart => exact ⟨a.length, Nat.le_refl _, rfl, Dr.refl w, by rw [List.drop_length, H.out, List.drop_length]; rfl⟩
    case round =>
      obtain ⟨k, hk, rfl, ⟨n, rfl⟩, hd⟩ := hrel
      rcases k with _ | k
      · go_wp2
        go_ret
        refine ⟨zbb ?_, (Dr.refl w).drewN n⟩
        have := hd.out
        simp only [List.drop_zero] at this
        rw [Hr.out, sgn_eq (by rw [this])]
      · obtain ⟨ba, oa, rfl, _, _, hca⟩ := hA (zbm hk)
        obtain ⟨bb, ob, rfl, _, _, hcb⟩ := hB (zbm (Nat.le_trans hk h1))
        obtain ⟨x, hx, hx0, hxc⟩ := zen (j := k) hca (by omega)
        obtain ⟨y, hy, hy0, hyc⟩ := zen (j := k) hcb (by omega)
        clear hca hcb
        rw [show (((k + 1 : Nat) : Int) - 1) = (k : Int) from by omega]
        go_wp2
        go_quiet (fail)
        go_wp2
        · go_ret
          refine ⟨zbb ?_, ((Dr.refl w).drewN n).drewN _⟩
          have hlt : x < y := by assumption
          rw [Hr.out, sgn_lt (val_lt_at Ha.out Hb.out H.out (by omega) hd.out (by have := hx.out; have := hy.out; omega))]
        · go_quiet (fail)
          go_wp2
          · go_ret
            refine ⟨zbb ?_, (((Dr.refl w).drewN n).drewN _).drewN _⟩
            have hlt : y < x := by assumption
            rw [Hr.out, sgn_gt (val_lt_at Hb.out Ha.out H.out.symm (by omega) hd.out.symm (by have := hx.out; have := hy.out; omega))]
          · go_roundw
            case rel =>
              have g1 : y ≤ x := by assumption
              have g2 : x ≤ y := by assumption
              exact ⟨k, by omega, rfl, ⟨_, rfl⟩, Lib.hid (drop_step H.out (by omega) hd.out (by have := hx.out; have := hy.out; omega))⟩
            case measure => simp [intOf]
  · have Hr := Lib.hid (hr2 h); clear hr1 hr2
    go_enter Tryd.func82, Tryd.ntmps82
    go_wp2
    go_ret
    exact ⟨zbb Hr.out.symm, Dr.refl w⟩
theorem rorder_n {w : World} {va vb : Value} {x y lo hi lo' hi' : Nat} (ha : IsN w lo hi va x) (hb : IsN w lo' hi' vb y) :
    Calls Tryd.prog 82 #[va, vb] w fun e w' => e = .returned (.int .i64 (sgn x y)) ∧ Dr w w' := by
  have h1 := ha.length_le
  have h2 := hb.length_le
  obtain ⟨A, c, rfl, _, _, hA⟩ := ha
  obtain ⟨B, d, rfl, _, _, hB⟩ := hb
  refine rorder_list A B c d (lim x) (lim y) w _ _ _ _ (zbh x) (zbh y) h1 h2 hA hB _ ?_ ?_ ?_
  · intro h; exact sgn_lt (zer h)
  · intro h; exact sgn_gt (zer h)
  · intro _; rw [zbf, zbf]
end Go.Proofs.YtjkgdggkgljdoaaDoor
namespace Go.Proofs.YtjkgdggkgljdoaaDoor
open Go.RowKit
section
variable {P : Program} {w : World} {ops : Array Oper} {o : Oper} {a : Act} {K : Act → World → Prop} {Q : Exit → Act → World → Prop} {t e : TypeId} {z : Value} {bytes base : Nat} {E' : Prop}
theorem make_rule {k : IntKind} (P : Program) {t e : TypeId} {bytes : Nat} (E : ElT P t e (.int k 0) bytes) (L : Int) (n : Nat) (hL : L = (n : Int)) (hb : n * (bytes + 1) ≤ 140737488355328) :
    ∃ zs : Array Value, zs = (cel k (List.replicate n 0)).toArray ∧ ∀ w : World, (Instr.makeSlice t (.int .i64 L) (.int .i64 L)).run P w = .ok (.slice (some ⟨w.heap.size, 0, none⟩) n n) (w.alloc (.cells zs e)) := by
  obtain ⟨i, h2, h3, h4, hby⟩ := E.info
  rw [Nat.mul_add, Nat.mul_one] at hb
  have b2 : i.bytes * n ≤ 281474976710656 := by rw [hby, Nat.mul_comm]; omega
  have hb' : (i.bytes : Int) * (n : Int) ≤ 281474976710656 := by
    have h : ((i.bytes * n : Nat) : Int) ≤ 281474976710656 := by omega
    rwa [Int.natCast_mul] at h
  refine ⟨_, rfl, fun w => ?_⟩
  have hr := run_make (P := P) w t e i (.int k 0) E.und h2 h3 .i64 .i64 n n (by omega) (Int.le_refl _) hb' (by omega)
  simp only [Int.toNat_natCast] at hr
  have hm : (cel k (List.replicate n 0)).toArray = madeCells (Value.int k 0).cells (n * i.size) := by
    apply Array.ext'
    rw [h4, Nat.mul_one]
    show _ = (madeCells #[.int k 0] n).toList
    rw [toList_madeCells_one]
    simp [cel]
  rw [hL, hm]
  exact hr
theorem step_app (E : ElT P t e z bytes) (hgd : o.guard = none) (s x : Operand) (ho : o.op = .call { callee := .builtin .append, args := #[s, x], argTypes := #[t, t] })
    {v : Value} {xs : List Value} (hs : a.eval s = v) (hown : Own w base e v xs) {lo hi : Nat} {A : Option Addr} {m c : Nat} {news : List Value} (hx : a.eval x = .slice A m c) (hl : news.length = m) (hr : SV w lo hi A news)
    (h1 : ∀ u ∈ news, u.oneCell' = true) (hb : (xs.length + m) * (bytes + 1) ≤ 140737488355328) (hbase : base ≤ w.heap.size)
    (h : ∀ v' w', Own w' base e v' (xs ++ news) → Below base w w' → w.heap.size ≤ w'.heap.size → K (a.put o.dst v') w') :
    if Region.wanted o (yielded ops a.tmps) = true then Oper.wp P o a w K Q else E' := by
  obtain ⟨i, hi, hz, hsz, hby⟩ := E.info
  rw [Nat.mul_add, Nat.mul_one] at hb
  have hw : Region.wanted o (yielded ops a.tmps) = true := by simp [Region.wanted, hgd]
  rw [if_pos hw]
  refine wp_app w s x t ho base e i z 1 bytes E.und hi hz hsz hby E.zc (by omega) v xs.length xs hs hown lo _ A m c news hx (by omega) hr h1 (by unfold maxLen; omega) (by omega) hbase fun v' w' h2 h3 _ =>
    h v' w' (by unfold Own; rw [List.length_append, hl]; exact h2) ((Below.refl _ _).grown h3 hbase (fun k hk => (World.ownsRow.lt hown k hk).1)) h3.size
end
end Go.Proofs.YtjkgdggkgljdoaaDoor
namespace Go.Proofs.YtjkgdggkgljdoaaDoor
theorem drop_lt {l : List Nat} (h : Lo l) {k n : Nat} (hk : l.length ≤ k + n) : val (l.drop k) < pw n := by
  have h1 := zea (lo_drop h k)
  have h2 : pw (l.drop k).length ≤ pw n := pw_mono (by rw [List.length_drop]; omega)
  omega
theorem val_drop_div (R k : Nat) : val ((lim R).drop k) = R / pw k := by
  rcases Nat.lt_or_ge (lim R).length k with h | h
  · rw [List.drop_eq_nil_of_le (by omega), zez, Nat.div_eq_of_lt (lim_len_le.1 (by omega))]
  · have h1 := zdk (lim R) k h
    rw [zbf] at h1
    have h2 := zea (zdf (zbh R) k)
    rw [List.length_take, Nat.min_eq_left h] at h2
    conv => rhs; rw [h1]
    rw [Nat.add_mul_div_left _ _ (zff k), Nat.div_eq_of_lt h2, Nat.zero_add]
theorem top_le {B n : Nat} : (lim B).getD n 0 * pw n ≤ B := by
  rw [zfb]
  have h1 := Nat.div_mul_le_self B (pw n)
  have h2 := Nat.mul_le_mul_right (pw n) (Nat.mod_le (B / pw n) 1000000000)
  omega
theorem top_ge {B n : Nat} (hn : (lim B).length = n + 1) : 1 ≤ (lim B).getD n 0 := by
  rw [zfb]
  have h1 : pw n ≤ B := lim_len_lt.1 (by omega)
  have h2 : B < pw (n + 1) := lim_len_le.1 (by omega)
  rw [zby] at h2
  have h3 : B / pw n < 1000000000 := by rw [Nat.div_lt_iff_lt_mul (zff n)]; exact h2
  rw [Nat.mod_eq_of_lt h3]
  exact Nat.div_pos h1 (zff n)
theorem guess_ge {R B n : Nat} (hn : (lim B).length = n + 1) (hR : R < B * 1000000000) {d : Nat} (hd : d = 999999999 ∨ d = R / pw n / (lim B).getD n 0) : R < (d + 1) * B := by
  rcases hd with rfl | rfl
  · rw [Nat.mul_comm]; exact hR
  · have ht := top_ge hn
    have h1 := Nat.lt_div_mul_add (a := R / pw n) (b := (lim B).getD n 0) (by omega)
    have h2 := Nat.lt_div_mul_add (a := R) (b := pw n) (zff n)
    generalize R / pw n / (lim B).getD n 0 = d at *
    generalize hl : R / pw n = l at *
    have h3 : l + 1 ≤ (d + 1) * (lim B).getD n 0 := by rw [Nat.add_mul, Nat.one_mul]; omega
    have h4 := Nat.mul_le_mul_right (pw n) h3
    have h5 := Nat.mul_le_mul_left (d + 1) (top_le (B := B) (n := n))
    rw [Nat.add_mul, Nat.one_mul] at h4
    rw [Nat.mul_assoc] at h4
    omega
theorem lead_lt {R B n : Nat} (hn : (lim B).length = n + 1) (hR : R < B * 1000000000) : (lim R).length ≤ n + 2 ∧ R / pw n < 1000000000000000000 := by
  have h1 : B < pw (n + 1) := lim_len_le.1 (by omega)
  have h2 : R < pw (n + 2) := by
    rw [show n + 2 = (n + 1) + 1 from rfl, zby, Nat.mul_comm]
    exact Nat.lt_of_lt_of_le hR (Nat.mul_le_mul_right _ (Nat.le_of_lt h1))
  refine ⟨lim_len_le.2 h2, ?_⟩
  rw [Nat.div_lt_iff_lt_mul (zff n)]
  rw [show n + 2 = (n + 1) + 1 from rfl, zby, zby] at h2
  omega
theorem lead_at {R n j q : Nat} (h : q = val ((lim R).drop j)) (hj : j = n ∨ (j = (lim R).length ∧ j ≤ n)) : q = R / pw n := by
  rcases hj with rfl | ⟨rfl, h1⟩
  · rw [h, val_drop_div]
  · rw [h, List.drop_length, zez, Nat.div_eq_of_lt (lim_len_le.1 h1)]
theorem cons_val {a R : Nat} : val (a :: lim R) = a + 1000000000 * R := by rw [zfi, zbf]
theorem cons_lt {a R B : Nat} (ha : a < 1000000000) (hR : R < B) : a + 1000000000 * R < B * 1000000000 := by omega
theorem digit_down {R B d : Nat} (h : R < B * d) : 1 ≤ d ∧ R < (d - 1 + 1) * B := by
  rcases d with _ | d
  · simp at h
  · exact ⟨by omega, by rw [Nat.add_sub_cancel, Nat.mul_comm]; exact h⟩
theorem digit_exact {R B d : Nat} (h1 : d * B ≤ R) (h2 : R < (d + 1) * B) : R - d * B < B ∧ R - d * B = R % B ∧ d = R / B := by
  have hB : 0 < B := by
    rcases Nat.eq_zero_or_pos B with h | h
    · subst h; simp at h2
    · exact h
  have h3 : R / B = d := Nat.div_eq_of_lt_le h1 h2
  rw [Nat.add_mul, Nat.one_mul] at h2
  exact ⟨by omega, by rw [Nat.mod_eq_sub_mul_div, h3, Nat.mul_comm], h3.symm⟩
theorem over_step {A Q : List Nat} {k B R d R' : Nat} (hk : k < A.length) (hq : k < Q.length) (h : val (A.drop (k + 1)) = B * val (Q.drop (k + 1)) + R) (hR : A.getD k 0 + 1000000000 * R = R') (h1 : d * B ≤ R') :
    val (A.drop k) = B * val ((Q.set k d).drop k) + (R' - d * B) := by
  rw [zfj hk, h, drop_set hq]
  have e : B * (d + 1000000000 * val (Q.drop (k + 1))) = d * B + 1000000000 * (B * val (Q.drop (k + 1))) := by grind
  rw [e, Nat.mul_add]
  omega
theorem drop_isLim (X k : Nat) : lim (val ((lim X).drop k)) = (lim X).drop k := by
  apply zet (lo_drop (zbh X) k)
  rcases Nat.lt_or_ge k (lim X).length with h | h
  · right
    rw [List.length_drop, val_drop_div, Nat.le_div_iff_mul_le (zff k), ← pw_add]
    exact lim_len_lt.1 (by omega)
  · exact .inl (List.drop_eq_nil_of_le h)
def bs (l : List Nat) : ByteArray := ⟨(l.map UInt8.ofNat).toArray⟩
end Go.Proofs.YtjkgdggkgljdoaaDoor
namespace Go.Proofs.YtjkgdggkgljdoaaDoor
open Go.RowKit
end Go.Proofs.YtjkgdggkgljdoaaDoor
namespace Go.Proofs.YtjkgdggkgljdoaaDoor
open Go.RowKit
set_option linter.unusedVariables false
theorem Own.row {w : World} {base : Nat} {e : TypeId} {v : Value} {xs : List Value} (h : Own w base e v xs) (hx : xs ≠ []) :
    ∃ g sp cap, v = .slice (some ⟨g, 0, none⟩) xs.length cap ∧ base ≤ g ∧ Row w g e (xs ++ sp) ∧ xs.length ≤ cap ∧ cap ≤ maxLen := by
  rcases h.2 with ⟨_, hn⟩ | ⟨g, cap, cur, hv, hb, hh, hn, hcm, hcs, htake⟩
  · exact absurd (List.eq_nil_of_length_eq_zero hn) hx
  · refine ⟨g, cur.toList.drop xs.length, cap, hv, hb, ?_, hn, hcm⟩
    unfold Row
    rw [Nat.mul_one] at htake
    have e : xs ++ List.drop xs.length cur.toList = cur.toList := by
      conv => lhs; lhs; rw [← htake]
      exact List.take_append_drop _ _
    rw [e]
    exact hh
theorem Row.numS {w : World} {g : Nat} {t : TypeId} {k : IntKind} {l : List Nat} {sp : List Value} (h : Row w g t (cel k l ++ sp)) {i : Nat} (hi : i < l.length) :
    ∃ x : Int, Hid (x = (l.getD i 0 : Nat)) ∧ 0 ≤ x ∧ w.cell? ⟨g, i, none⟩ = some (.int k x) := by
  refine ⟨_, rfl, by omega, ?_⟩
  rw [h.cell, List.getElem?_append_left (by rw [zbo]; exact hi), cel_at hi]
theorem Row.setS {w : World} {g : Nat} {t : TypeId} {k : IntKind} {l : List Nat} {sp : List Value} (h : Row w g t (cel k l ++ sp)) (i n : Nat) (hi : i < l.length) (x : Int) (hx : x = (n : Int)) :
    Row (w.setCell ⟨g, i, none⟩ (.int k x)) g t (cel k (l.set i n) ++ sp) := by
  subst hx
  rw [cel_set, ← List.set_append_left _ _ (by rw [zbo]; exact hi)]
  exact h.set_ i _
end Go.Proofs.YtjkgdggkgljdoaaDoor
