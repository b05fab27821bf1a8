/-
  The plain law of histories: a gain is the mean of what playing a strategy always would have gained.
-/
import Derived.Test.YtijjjbgnpfjpmaaGreatDoorProofCoarseHistory05
import Derived.Test.YtijjjbgnpfjpmaaGreatDoorCoh01
import Derived.Test.YtijjjbgnpfjpmaaGreatDoorCoh03
import Derived.Test.YtijjjbgnpfjpmaaGreatDoorCoh04
import Derived.Test.YtijjjbgnpfjpmaaGreatDoorCoh02
import Derived.Lib.ConvBytes
import Derived.Deep.DeepCutAuto
import Derived.IntWalk
import Derived.Test.YtijjjbgnpfjpmaaGreatDoorProofCoarseHistory03
namespace Go.Proofs.YtijjjbgnpfjpmaaGreatDoor
set_option linter.unusedVariables false
def sumR (l : List Rat) : Rat := l.foldl (· + ·) 0
theorem foldl_addR (l : List Rat) (a : Rat) : l.foldl (· + ·) a = a + l.foldl (· + ·) 0 := by
  induction l generalizing a with
  | nil => simp [Rat.add_zero]
  | cons x l ih => rw [List.foldl_cons, List.foldl_cons, ih, ih (0 + x), Rat.zero_add, Rat.add_assoc]
theorem zfk : sumR [] = 0 := rfl
theorem zdo (x : Rat) (l : List Rat) : sumR (x :: l) = x + sumR l := by
  unfold sumR
  rw [List.foldl_cons, foldl_addR, Rat.zero_add]
theorem sumR_append (l m : List Rat) : sumR (l ++ m) = sumR l + sumR m := by
  induction l with
  | nil => rw [List.nil_append, zfk, Rat.zero_add]
  | cons x l ih => rw [List.cons_append, zdo, zdo, ih, Rat.add_assoc]
theorem zel (f : Nat → Rat) (N : Nat) : sumR ((List.range (N + 1)).map f) = sumR ((List.range N).map f) + f N := by
  rw [List.range_succ, List.map_append, sumR_append, List.map_cons, List.map_nil, zdo, zfk, Rat.add_zero]
theorem sumR_add (f g : Nat → Rat) (N : Nat) : sumR ((List.range N).map fun i => f i + g i) = sumR ((List.range N).map f) + sumR ((List.range N).map g) := by
  induction N with
  | zero => simp [zfk, Rat.add_zero]
  | succ N ih =>
    rw [zel, zel, zel, ih, Rat.add_assoc, Rat.add_assoc]
    congr 1
    rw [← Rat.add_assoc, ← Rat.add_assoc, Rat.add_comm _ (f N)]
theorem sumR_one (f : Nat → Rat) {j N : Nat} : sumR ((List.range N).map fun i => if j = i then f i else 0) = if j < N then f j else 0 := by
  induction N with
  | zero => simp [zfk]
  | succ N ih =>
    rw [zel, ih]
    by_cases h : j < N
    · rw [if_pos h, if_neg (by omega), if_pos (by omega), Rat.add_zero]
    · by_cases h2 : j = N
      · subst h2; rw [if_neg h, if_pos rfl, if_pos (by omega), Rat.zero_add]
      · rw [if_neg h, if_neg h2, if_neg (by omega), Rat.zero_add]
theorem sumR_count (f : Nat → Rat) {N : Nat} {js : List Nat} (h : ∀ j ∈ js, j < N) : sumR ((List.range N).map fun i => ((js.count i : Nat) : Rat) * f i) = sumR (js.map f) := by
  induction js with
  | nil =>
    have : ((List.range N).map fun i => ((([] : List Nat).count i : Nat) : Rat) * f i) = (List.range N).map fun i => if N = i then f i else 0 := by
      refine List.map_congr_left fun i hi => ?_
      have := List.mem_range.1 hi
      rw [if_neg (by omega), List.count_nil, show ((0 : Nat) : Rat) = 0 from rfl, Rat.zero_mul]
    rw [this, sumR_one, if_neg (Nat.lt_irrefl _)]
    rfl
  | cons j js ih =>
    have : ((List.range N).map fun i => (((j :: js).count i : Nat) : Rat) * f i) = (List.range N).map fun i => ((js.count i : Nat) : Rat) * f i + if j = i then f i else 0 := by
      refine List.map_congr_left fun i _ => ?_
      rw [List.count_cons, Rat.natCast_add, Rat.add_mul]
      congr 1
      by_cases hji : j = i
      · rw [if_pos hji, hji]; simp [Rat.one_mul]
      · rw [if_neg hji]; simp [hji, Rat.zero_mul]
    rw [this, sumR_add, ih fun x hx => h x (by simp [hx]), sumR_one, if_pos (h j (by simp)), List.map_cons, zdo, Rat.add_comm]
theorem sumR_mul (l : List Rat) (c : Rat) : sumR (l.map fun x => x * c) = sumR l * c := by
  induction l with
  | nil => rw [List.map_nil, zfk, Rat.zero_mul]
  | cons x l ih => rw [List.map_cons, zdo, zdo, ih, Rat.add_mul]
theorem tot_all (l : List Rat) : tot l l.length = sumR l := by unfold tot sumR; rw [List.take_length]
theorem digit_num {sz r : List Nat} {p x y : Nat} (hr : ∀ j x, sz[j]? = some x → r.getD j 0 < x) (hl : r.length = sz.length) (hx : sz[p]? = some x) (hy : r[p]? = some y) : numL sz r / prd (sz.drop (p + 1)) % x = y := by
  induction sz generalizing r p with
  | nil => simp at hx
  | cons s l ih =>
    rw [numL]
    have hr1 : ∀ j y, l[j]? = some y → (r.drop 1).getD j 0 < y := fun j y hj => by rw [zbv, Nat.add_comm]; exact hr (j + 1) y (by simpa using hj)
    have hlt := zed hr1
    cases r with
    | nil => simp at hl
    | cons r0 r =>
      cases p with
      | zero =>
        simp at hx hy
        subst hx hy
        have h0 : r0 < s := by have := hr 0 s rfl; simpa using this
        rw [List.drop_succ_cons, List.drop_zero, List.drop_succ_cons, List.drop_zero]
        rw [List.drop_succ_cons, List.drop_zero] at hlt
        have : (List.getD (r0 :: r) 0 0 * prd l + numL l r) / prd l = r0 := by
          rw [Nat.mul_comm, Nat.mul_add_div (by omega), Nat.div_eq_of_lt hlt, Nat.add_zero]; rfl
        rw [this, Nat.mod_eq_of_lt h0]
      | succ p =>
        simp at hx hy
        have h1 := ih (r := r) (p := p) (by simpa using hr1) (by simpa using hl) hx hy
        rw [List.drop_succ_cons, List.drop_succ_cons, List.drop_zero]
        have hD : 1 ≤ prd (l.drop (p + 1)) := by
          rcases Nat.eq_zero_or_pos (prd (l.drop (p + 1))) with h | h
          · rw [zee l (p + 1), h] at hlt; omega
          · exact h
        have e : prd l = prd (l.take p) * x * prd (l.drop (p + 1)) := by
          rw [zee l p, prd_drop hx, Nat.mul_assoc]
        have e2 : List.getD (r0 :: r) 0 0 * prd l + numL l r = prd (l.drop (p + 1)) * (r0 * prd (l.take p) * x) + numL l r := by
          rw [e]
          show r0 * (prd (l.take p) * x * prd (l.drop (p + 1))) + _ = _
          congr 1
          rw [Nat.mul_comm (prd (l.drop (p + 1))), Nat.mul_assoc r0, Nat.mul_assoc r0]
        rw [e2, Nat.mul_add_div (by omega), Nat.add_comm, Nat.add_mul_mod_self_right, h1]
theorem num_set {sz r : List Nat} {p t y : Nat} (hl : r.length = sz.length) (hp : p < sz.length) (hy : r[p]? = some y) : (numL sz (r.set p t) : Int) = (numL sz r : Int) + ((t : Int) - (y : Int)) * (prd (sz.drop (p + 1)) : Nat) := by
  induction sz generalizing r p with
  | nil => simp at hp
  | cons s l ih =>
    cases r with
    | nil => simp at hl
    | cons r0 r =>
      cases p with
      | zero =>
        simp at hy
        subst hy
        rw [List.set_cons_zero, numL, numL]
        simp only [List.drop_succ_cons, List.drop_zero]
        show ((t * prd l + numL l r : Nat) : Int) = ((r0 * prd l + numL l r : Nat) : Int) + _
        rw [Int.natCast_add, Int.natCast_add, Int.natCast_mul, Int.natCast_mul, Int.sub_mul]
        omega
      | succ p =>
        simp at hy
        rw [List.set_cons_succ, numL, numL]
        simp only [List.drop_succ_cons, List.drop_zero]
        have h1 := ih (r := r) (p := p) (by simpa using hl) (by simpa using hp) hy
        show ((r0 * prd l + numL l (r.set p t) : Nat) : Int) = ((r0 * prd l + numL l r : Nat) : Int) + _
        rw [Int.natCast_add, Int.natCast_add, h1]
        omega
theorem insN_num {sz ll} (ok : PlOk sz ll) {r : List Nat} (hr : r ∈ ll) {p t : Nat} (hp : p < sz.length) : insN sz (numL sz r) p t = (numL sz (r.set p t) : Nat) := by
  have h1 := (ok r hr).1
  have hx := List.getElem?_eq_getElem hp
  have hy := List.getElem?_eq_getElem (show p < r.length by omega)
  have e : sz.getD p 0 = sz[p] := by rw [List.getD_eq_getElem?_getD, hx]; rfl
  rw [insN, e, digit_num (zdp ok hr) h1 hx hy, num_set h1 hp hy]
def payQ (sz : List Nat) (ps : List (List Rat)) (p : Nat) (r : List Nat) : Rat := (rowP ps p).getD (numL sz r) 0
def zdh (sz : List Nat) (ps : List (List Rat)) (ll : List (List Nat)) (p t : Nat) : List Rat := ll.map fun r => payQ sz ps p (r.set p t) - payQ sz ps p r
theorem gain_mean {sz : List Nat} {ps : List (List Rat)} {ll : List (List Nat)} (ok : PlOk sz ll) (h1 : 1 ≤ ll.length) {p t : Nat} (hp : p < sz.length) : zcv sz ps (zaz sz ll) p t = tot (zdh sz ps ll p t) ll.length * mkRat 1 ll.length := by
  have hlen : (zaz sz ll).length = prd sz := by simp [zaz]
  have hn : ll.length ≠ 0 := by omega
  have hN : ∀ j ∈ ll.map (numL sz), j < prd sz := fun j hj => by
    obtain ⟨r, hr, rfl⟩ := List.mem_map.1 hj
    exact zed (zdp ok hr)
  have e1 : mulL (zaz sz ll) (alw sz ps p t) = (List.range (prd sz)).map fun i => (((ll.map (numL sz)).count i : Nat) : Rat) * ((alw sz ps p t).getD i 0 * mkRat 1 ll.length) := by
    unfold mulL
    rw [hlen]
    refine List.map_congr_left fun i hi => ?_
    have hi := List.mem_range.1 hi
    have e2 : (zaz sz ll).getD i 0 = mkRat (((ll.map (numL sz)).count i : Nat) : Int) ll.length := by
      rw [List.getD_eq_getElem?_getD]
      unfold zaz
      rw [List.getElem?_map, List.getElem?_range hi]
      rfl
    have e6 : mkRat (((ll.map (numL sz)).count i : Nat) : Int) ll.length = (((ll.map (numL sz)).count i : Nat) : Rat) * mkRat 1 ll.length := by
      have := mk_mul_int 1 (((ll.map (numL sz)).count i : Nat) : Int) hn
      rw [Int.one_mul] at this
      rw [← this, Rat.mul_comm, Rat.intCast_natCast]
    rw [e2, e6, Rat.mul_assoc, Rat.mul_comm (mkRat 1 ll.length)]
  have e3 : zcv sz ps (zaz sz ll) p t = sumR (mulL (zaz sz ll) (alw sz ps p t)) := by
    unfold zcv
    have : (zaz sz ll).length = (mulL (zaz sz ll) (alw sz ps p t)).length := by rw [mulL_len]
    rw [this, tot_all]
  have e4 : tot (zdh sz ps ll p t) ll.length = sumR (zdh sz ps ll p t) := by
    have : ll.length = (zdh sz ps ll p t).length := by simp [zdh]
    rw [this, tot_all]
  rw [e3, e1, sumR_count _ hN, e4, ← sumR_mul, List.map_map]
  unfold zdh
  rw [List.map_map]
  congr 1
  refine List.map_congr_left fun r hr => ?_
  have e5 : (alw sz ps p t).getD (numL sz r) 0 = payQ sz ps p (r.set p t) - payQ sz ps p r := by
    rw [List.getD_eq_getElem?_getD]
    unfold alw
    rw [List.getElem?_map, List.getElem?_range (zed (zdp ok hr)), Option.map_some, insN_num ok hr hp]
    rfl
  show (alw sz ps p t).getD (numL sz r) 0 * _ = _
  rw [e5]
  rfl
end Go.Proofs.YtijjjbgnpfjpmaaGreatDoor
namespace Go.Proofs.YtijjjbgnpfjpmaaGreatDoor
open Go.RowKit
set_option linter.unusedVariables false
set_option maxHeartbeats 400000 in
theorem rtrim_same (A : Option Addr) (c : Nat) (l : List Nat) (w : World) (lo hi : Nat) (hl : Lo l) (hll : l.length ≤ c) (hlc : c ≤ maxLen) (hA : SV w lo hi A (cel .u32 l)) :
    Calls Tryz.prog 175 #[.slice A l.length c] w fun e w' => (∃ m, e = .returned (.slice A m c) ∧ m ≤ l.length ∧ lim (val l) = l.take m) ∧ w = w' := by
  have Hlc2 := Lib.hid hlc
  unfold maxLen at hlc
  have Hl := Lib.hid hl; clear hl
  go_enter Tryz.func175, Tryz.ntmps175
  go_wp2
  go_loop [0] (fun s => ∃ m : Nat, m ≤ l.length ∧ s = .slice A m c ∧ Hid (∀ j, m ≤ j → j < l.length → l.getD j 0 = 0)) (fun s => match s with | .slice _ m _ => m | _ => 0)
  case atStart => exact ⟨l.length, Nat.le_refl _, rfl, Lib.hid (by intro j h1 h2; omega)⟩
  case round =>
    obtain ⟨m, hm, rfl, hz⟩ := hrel
    rcases m with _ | m
    · go_wp2
      go_ret
      exact ⟨⟨0, rfl, Nat.zero_le _, trim_to Hl.out (Nat.zero_le _) hz.out (.inl rfl)⟩, rfl⟩
    · obtain ⟨ba, oa, rfl, _, _, hca⟩ := hA (zap hm)
      obtain ⟨x, hx, hx0, hxc⟩ := zbo (j := m) hca og
      clear hca
      by_cases h0 : x = 0
      · subst h0
        go_wp2
        go_round
        case rel => exact ⟨m, by omega, rfl, Lib.hid (by
          intro j h1 h2
          rcases Nat.eq_or_lt_of_le h1 with h3 | h3
          · subst h3; have := hx.out; omega
          · exact hz.out j h3 h2)⟩
        case measure => simp
      · have hb : (x == 0) = false := by simpa using h0
        go_wp2
        go_ret
        exact ⟨⟨m + 1, rfl, hm, trim_to Hl.out hm hz.out (.inr (by have := hx.out; simp only [Nat.add_sub_cancel]; omega))⟩, rfl⟩
theorem rtrim_list (A : Option Addr) (c : Nat) (l : List Nat) (w : World) (lo hi : Nat) (hl : Lo l) (hll : l.length ≤ c) (hlc : c ≤ maxLen) (hA : SV w lo hi A (cel .u32 l)) :
    Calls Tryz.prog 175 #[.slice A l.length c] w fun e w' => (∃ v, e = .returned v ∧ IsN w lo hi v (val l)) ∧ w = w' :=
  (rtrim_same A c l w lo hi hl hll hlc hA).mono fun e w' ⟨⟨m, he, hm, ht⟩, hw⟩ => ⟨⟨_, he, A, c, by rw [ht, List.length_take, Nat.min_eq_left hm], by rw [ht, List.length_take]; omega, hlc, by rw [ht, zeg]; exact hA.take m⟩, hw⟩
theorem rtrim_l {w : World} {va : Value} {l : List Nat} {lo hi : Nat} (ha : IsL .u32 w lo hi va l) (hl : Lo l) :
    Calls Tryz.prog 175 #[va] w fun e w' => (∃ v, e = .returned v ∧ IsN w lo hi v (val l)) ∧ w = w' := by
  obtain ⟨A, c, rfl, hc, hcm, hA⟩ := ha
  exact rtrim_list A c l w lo hi hl hc hcm hA
set_option maxRecDepth 100000 in
set_option maxHeartbeats 1000000 in
theorem rplus_n {w : World} {va vb : Value} {x y : Nat} {lo hi lo' hi' : Nat} (ha : IsN w lo hi va x) (hb : IsN w lo' hi' vb y) (hi1 : hi ≤ w.heap.size) (hi2 : hi' ≤ w.heap.size) (hx : (lim x).length ≤ 4294967296) (hy : (lim y).length ≤ 4294967296) :
    Calls Tryz.prog 107 #[va, vb] w fun e w' => (∃ v, e = .returned v ∧ IsN w' w.heap.size w'.heap.size v (x + y)) ∧ Below w.heap.size w w' := by
  obtain ⟨A, c, rfl, _, _, hA⟩ := ha
  obtain ⟨B, d, rfl, _, _, hB⟩ := hb
  obtain ⟨M, hM1, hM2, hM3⟩ : ∃ M : Nat, (lim x).length ≤ M ∧ (lim y).length ≤ M ∧ (M = (lim x).length ∨ M = (lim y).length) := ⟨max (lim x).length (lim y).length, by omega, by omega, by omega⟩
  have hM : Hid (∀ k, k < M → pw k ≤ x + y) := by
    intro k hk
    rcases hM3 with h | h
    · have := pw_le_of_len (x := x) (k := k) og; omega
    · have := pw_le_of_len (x := y) (k := k) og; omega
  generalize hla : lim x = a at *
  generalize hlb : lim y = b at *
  have Hal : Hid (Lo a ∧ val a = x) := by rw [Hid, ← hla]; exact ⟨zat x, zas x⟩
  have Hbl : Hid (Lo b ∧ val b = y) := by rw [Hid, ← hlb]; exact ⟨zat y, zas y⟩
  have hM4 : M ≤ 4294967296 := og
  clear hla hlb hM3
  generalize hBs : w.heap.size = bs at *
  have HB := Lib.hid hBs; clear hBs
  go_enter Tryz.func107, Tryz.ntmps107
  go_wp2
  go_loopw [5, 6, 7] (fun v cy i wr => ∃ (k : Nat) (L : List Nat) (q : Int), k ≤ M + 1 ∧ i = .int .i64 (k : Int) ∧ cy = .int .u32 q ∧ 0 ≤ q ∧ q ≤ 1 ∧ Own wr bs 160 v (cel .u32 L) ∧ Below bs w wr ∧
      Hid (L.length = k ∧ Lo L ∧ (val L : Int) + q * pw k = val (a.take k) + val (b.take k) ∧ (M < k → q = 0 ∧ pw M ≤ val L))) (fun _ _ i _ => M + 1 - (intOf i).toNat)
  case atStart => exact ⟨0, [], 0, by omega, rfl, rfl, by omega, by omega, Own.nil _ _ _, Below.refl _ _, rfl, lo_nil, by simp [val], fun h => by omega⟩
  case round =>
    obtain ⟨k, L, q, hk, rfl, rfl, hq0, hq1, hown, hbw, hrel⟩ := hrel
    have hBw : bs ≤ wr.heap.size := by have := hbw.size; have := HB.out; omega
    have hkc : k ≤ 4294967297 := og
    have hlen : Hid ((cel .u32 L).length ≤ 4294967297) := by rw [Hid, zal, hrel.out.1]; omega
    rcases Nat.lt_or_ge k a.length with hka | hka
    · obtain ⟨ba, oa, rfl, _, _, hca⟩ := (hA.below hbw hi1) (zap (j := k) hka)
      obtain ⟨x1, hx1, hx10, hx11, hx1c⟩ := zaw (j := k) Hal.out.1 hca hka
      clear hca
      rcases Nat.lt_or_ge k b.length with hkb | hkb
      · obtain ⟨bb, ob, rfl, _, _, hcb⟩ := (hB.below hbw hi2) (zap (j := k) hkb)
        obtain ⟨y1, hy1, hy10, hy11, hy1c⟩ := zaw (j := k) Hbl.out.1 hcb hkb
        clear hcb
        go_wp2_with (at_builtin; refine zbp elN rfl _ _ rfl rfl hown rfl rfl (oh hlen) hBw ?_; intro v1 w1 hown1 hbw1 hz1)
        go_roundw
        case rel =>
          rw [zcl .u32 L ((q + x1 + y1) % 1000000000).toNat _ og] at hown1
          exact ⟨k + 1, _, (q + x1 + y1) / 1000000000, by omega, by go_num, rfl, by omega, by omega, hown1, hbw.trans hbw1, by rw [List.length_append]; simp [hrel.out.1], zeb hrel.out.2.1 og, zfh hrel.out.1 hx1.out hy1.out og og hrel.out.2.2.1, fun h => by omega⟩
        case measure => simp [intOf]; omega
      · go_wp2_with (at_builtin; refine zbp elN rfl _ _ rfl rfl hown rfl rfl (oh hlen) hBw ?_; intro v1 w1 hown1 hbw1 hz1)
        go_roundw
        case rel =>
          rw [zcl .u32 L ((q + x1) % 1000000000).toNat _ og] at hown1
          exact ⟨k + 1, _, (q + x1) / 1000000000, by omega, by go_num, rfl, by omega, by omega, hown1, hbw.trans hbw1, by rw [List.length_append]; simp [hrel.out.1], zeb hrel.out.2.1 og, zfh (y := 0) hrel.out.1 hx1.out (by rw [zbg hkb]; rfl) og og hrel.out.2.2.1, fun h => by omega⟩
        case measure => simp [intOf]; omega
    · rcases Nat.lt_or_ge k b.length with hkb | hkb
      · obtain ⟨bb, ob, rfl, _, _, hcb⟩ := (hB.below hbw hi2) (zap (j := k) hkb)
        obtain ⟨y1, hy1, hy10, hy11, hy1c⟩ := zaw (j := k) Hbl.out.1 hcb hkb
        clear hcb
        go_wp2_with (at_builtin; refine zbp elN rfl _ _ rfl rfl hown rfl rfl (oh hlen) hBw ?_; intro v1 w1 hown1 hbw1 hz1)
        go_roundw
        case rel =>
          rw [zcl .u32 L ((q + y1) % 1000000000).toNat _ og] at hown1
          exact ⟨k + 1, _, (q + y1) / 1000000000, by omega, by go_num, rfl, by omega, by omega, hown1, hbw.trans hbw1, by rw [List.length_append]; simp [hrel.out.1], zeb hrel.out.2.1 og, zfh (x := 0) hrel.out.1 (by rw [zbg hka]; rfl) hy1.out og og hrel.out.2.2.1, fun h => by omega⟩
        case measure => simp [intOf]; omega
      · have hV : Hid ((val L : Int) + q * pw k = x + y) := by
          have := hrel.out.2.2.1
          rw [zai hka, zai hkb, Hal.out.2, Hbl.out.2] at this
          exact this
        rcases Int.lt_or_le 0 q with hqp | hqz
        · have hkM : k ≤ M := by
            rcases Nat.lt_or_ge M k with h | h
            · have := hrel.out.2.2.2 h; omega
            · exact h
          go_wp2_with (at_builtin; refine zbp elN rfl _ _ rfl rfl hown rfl rfl (oh hlen) hBw ?_; intro v1 w1 hown1 hbw1 hz1)
          go_roundw
          case rel =>
            rw [zcl .u32 L (q % 1000000000).toNat _ og] at hown1
            refine ⟨k + 1, _, q / 1000000000, by omega, by go_num, rfl, by omega, by omega, hown1, hbw.trans hbw1, by rw [List.length_append]; simp [hrel.out.1], zeb hrel.out.2.1 og, zfh (x := 0) (y := 0) hrel.out.1 (by rw [zbg hka]; rfl) (by rw [zbg hkb]; rfl) og og hrel.out.2.2.1, fun h => ⟨by omega, ?_⟩⟩
            rw [zbf, hrel.out.1, show (q % 1000000000).toNat = 1 from by omega, show k = M from by omega, val_cons, zev]
            omega
          case measure => simp [intOf]; omega
        · obtain rfl : q = 0 := og
          have hfin : Hid (lim (x + y) = L) := by
            have h1 : val L = x + y := oh hV
            rw [Hid, ← h1]
            refine lim_of_len hrel.out.2.1 ?_
            rcases Nat.lt_or_ge M k with h | h
            · exact .inr (by rw [hrel.out.1, show k - 1 = M from by omega]; exact (hrel.out.2.2.2 h).2)
            · rcases Nat.eq_zero_or_pos k with h0 | h0
              · exact .inl (List.eq_nil_of_length_eq_zero (by rw [hrel.out.1]; exact h0))
              · exact .inr (by rw [hrel.out.1, h1]; exact hM.out (k - 1) og)
          go_wp2
          go_ret
          refine ⟨⟨_, rfl, ?_⟩, hbw⟩
          unfold IsN
          rw [hfin.out]
          exact Own.isL hown
set_option maxRecDepth 100000 in
set_option maxHeartbeats 1000000 in
theorem zcq {w : World} {va vb : Value} {x y : Nat} {lo hi lo' hi' : Nat} (ha : IsN w lo hi va x) (hb : IsN w lo' hi' vb y) (hi1 : hi ≤ w.heap.size) (hi2 : hi' ≤ w.heap.size) (hx : (lim x).length ≤ 4294967296) (hy : (lim y).length ≤ 4294967296) :
    Calls Tryz.prog 106 #[va, vb] w fun e w' => (∃ v, e = .returned v ∧ IsN w' w.heap.size w'.heap.size v (x * y)) ∧ Below w.heap.size w w' := by
  obtain ⟨A, c, rfl, _, _, hA⟩ := ha
  obtain ⟨B, d, rfl, _, _, hB⟩ := hb
  generalize hla : lim x = a at *
  generalize hlb : lim y = b at *
  have Hal : Hid (Lo a ∧ val a = x) := by rw [Hid, ← hla]; exact ⟨zat x, zas x⟩
  have Hbl : Hid (Lo b ∧ val b = y) := by rw [Hid, ← hlb]; exact ⟨zat y, zas y⟩
  clear hla hlb
  go_enter Tryz.func106, Tryz.ntmps106
  go_wp2_with (at_make; refine zdd elN rfl _ _ rfl (a.length + b.length) rfl rfl rfl rfl og ?_; intro G w1 hG hrow hb1 hz1)
  go_loopw [6] (fun i wr => ∃ k : Nat, ∃ L : List Nat, k ≤ a.length ∧ i = .int .i64 (k : Int) ∧ Row wr G 160 (cel .u32 L) ∧ Below G w wr ∧ Hid (wr.heap.size = G + 1) ∧
      Hid (L.length = a.length + b.length ∧ Lo L ∧ (∀ j, k + b.length ≤ j → L.getD j 0 = 0) ∧ val L = val (a.take k) * val b)) (fun i _ => a.length - (intOf i).toNat)
  case atStart => exact ⟨0, _, Nat.zero_le _, rfl, hrow, hb1, hz1, by simp, zbr _, fun j _ => by rw [List.getD_eq_getElem?_getD, List.getElem?_replicate]; split <;> rfl, by rw [val_nil_take, Nat.zero_mul]; exact val_zeros (fun x hx => (List.mem_replicate.1 hx).2)⟩
  case round =>
    obtain ⟨k, L, hk, rfl, hr, hbw, hsz, hrel⟩ := hrel
    have hbw' : Below w.heap.size w wr := by have := hG.out; subst this; exact hbw
    rcases Nat.lt_or_ge k a.length with hlt | hge
    · obtain ⟨ba, oa, rfl, _, _, _⟩ := hA (zap (j := k) hlt)
      have HR := hrel; clear hrel
      obtain ⟨wo, rfl⟩ : ∃ wo : World, wo = wr := ⟨_, rfl⟩
      go_wp2
      go_loopw [7, 8] (fun cr i wi => ∃ j : Nat, ∃ M : List Nat, ∃ cy : Int, j ≤ b.length ∧ i = .int .i64 (j : Int) ∧ cr = .int .u64 cy ∧ 0 ≤ cy ∧ cy ≤ 999999999 ∧ Row wi G 160 (cel .u32 M) ∧ Below G w wi ∧ Hid (wi.heap.size = G + 1) ∧
          Hid (M.length = a.length + b.length ∧ Lo M ∧ (∀ j, k + b.length ≤ j → M.getD j 0 = 0) ∧ (val M : Int) + cy * pw (k + j) = val L + ((a.getD k 0 : Nat) : Int) * pw k * val (b.take j))) (fun _ i _ => b.length - (intOf i).toNat)
      case atStart => exact ⟨0, L, 0, Nat.zero_le _, rfl, rfl, by omega, by omega, hr, hbw, hsz, HR.out.1, HR.out.2.1, HR.out.2.2.1, by simp [val]⟩
      case round =>
        clear hr hbw hbw' hsz
        obtain ⟨j, M, cy, hj, rfl, rfl, hcy0, hcy1, hr, hbw, hsz, hrel⟩ := hrel
        have hbw' : Below w.heap.size w wr := by have := hG.out; subst this; exact hbw
        have hkM : Hid (k + b.length < M.length) := by rw [hrel.out.1]; unfold Hid; omega
        rcases Nat.lt_or_ge j b.length with hjl | hjg
        · obtain ⟨x, hx, hx0, hx1, hxc⟩ := zaw (j := k) Hal.out.1 (hA.below hbw' hi1).at_ hlt
          obtain ⟨bb, ob, rfl, _, _, hcb⟩ := (hB.below hbw' hi2) (zap (j := j) hjl)
          obtain ⟨y, hy, hy0, hy1, hyc⟩ := zaw (j := j) Hbl.out.1 hcb hjl
          clear hcb
          obtain ⟨z, hz, hz0, hz1, hzc⟩ := hr.lo hrel.out.2.1 (i := k + j) (oh hkM)
          have hzf := hr.frozen (k + j)
          have hxy := zbc hx0 hx1 hy0 hy1
          have hxy0 := hxy.1
          have hxy1 := hxy.2
          clear hxy
          go_wp2
          go_quiet (fail)
          go_wp2
          go_roundw
          case rel =>
            refine ⟨j + 1, M.set (k + j) ((cy + z + x * y) % 1000000000).toNat, (cy + z + x * y) / 1000000000, by omega, by go_num, rfl, by omega, by omega, (hr.drewN _).setNum (k + j) _ _ og, (below_drewN hbw _).setCell (Nat.le_refl _) _,
              by have := hsz.out; simpa [Hid, World.setCell] using this, by rw [List.length_set]; exact hrel.out.1, zbb hrel.out.2.1 og, fun i hi => by rw [getD_set_ne og]; exact hrel.out.2.2.1 i hi, ?_⟩
            rw [← hx.out]
            exact mul_step (oh hkM) hy.out hz.out (t := cy + z + x * y) (c := cy) (c' := (cy + z + x * y) / 1000000000) (r := (cy + z + x * y) % 1000000000) og og og (by rw [hx.out]; exact hrel.out.2.2.2)
          case measure => simp [intOf]; omega
        · obtain rfl : j = b.length := og
          obtain ⟨z, hz, hz0, hzc⟩ := hr.num (i := k + b.length) hkM.out
          have hzf := hr.frozen (k + b.length)
          go_wp2
          go_roundw
          case rel =>
            exact ⟨k + 1, M.set (k + b.length) cy.toNat, by omega, by go_num, hr.setNum (k + b.length) _ _ og, hbw.setCell (Nat.le_refl _) _,
              by have := hsz.out; simpa [Hid, World.setCell] using this, by rw [List.length_set]; exact hrel.out.1, zbb hrel.out.2.1 og, fun i hi => by rw [getD_set_ne og]; exact hrel.out.2.2.1 i og,
              mul_row rfl hkM.out rfl (hrel.out.2.2.1 _ (Nat.le_refl _)) hcy0 HR.out.2.2.2 hrel.out.2.2.2⟩
          case measure => simp [intOf]; omega
    · obtain rfl : k = a.length := og
      have H1 : Hid (Row wr G 160 (cel .u32 L) ∧ val L = x * y ∧ L.length = a.length + b.length ∧ Lo L) := ⟨hr, by have := hrel.out.2.2.2; rw [zai (Nat.le_refl _), Hal.out.2, Hbl.out.2] at this; exact this, hrel.out.1, hrel.out.2.1⟩
      clear hr hrel
      go_wp2_with fail
      rw [← H1.out.2.2.1]
      refine (rtrim_list _ _ L wr G (G + 1) H1.out.2.2.2 (Nat.le_refl _) (by have := H1.out.2.2.1; unfold maxLen; omega) H1.out.1.sv).mono ?_
      rintro e w2 ⟨⟨v, rfl, hv⟩, rfl⟩
      go_wp2_with fail
      go_ret
      refine ⟨⟨_, rfl, ?_⟩, hbw'⟩
      rw [← H1.out.2.1]
      exact hv.wide (oh hG) (oh hsz)
def WrN (w : World) (base : Nat) (v : Value) (n : Nat) : Prop := (v = .slice none 0 0 ∧ n = 0) ∨ ∃ g cap cur, v = .slice (some ⟨g, 0, none⟩) (lim n).length cap ∧ base ≤ g ∧ Row w g 160 cur ∧ cur.take (lim n).length = cel .u32 (lim n) ∧ (lim n).length ≤ cap ∧ cap ≤ maxLen
theorem take_sub {α : Type} {a b : List α} {n : Nat} (h : a.take n = b) : ∀ (j : Nat) (x : α), b[j]? = some x → a[j]? = some x := by
  intro j x hx
  rw [← h, List.getElem?_take] at hx
  split at hx
  · exact hx
  · cases hx
theorem WrN.isN {w : World} {base : Nat} {v : Value} {n : Nat} (h : WrN w base v n) : IsN w base w.heap.size v n := by
  rcases h with ⟨rfl, rfl⟩ | ⟨g, cap, cur, rfl, hb, hr, ht, h1, h2⟩
  · exact IsN.zero
  · exact ⟨_, cap, rfl, h1, h2, fun _ => ⟨g, 0, rfl, hb, hr.lt, fun j u hu => by rw [Nat.zero_add, hr.cell]; exact take_sub ht j u hu⟩⟩
theorem WrN.setFar {w : World} {base : Nat} {v : Value} {n : Nat} (h : WrN w base v n) {p : Addr} (hp : p.block < base) (u : Value) : WrN (w.setCell p u) base v n := by
  rcases h with h | ⟨g, cap, cur, rfl, hb, hr, ht, h1, h2⟩
  · exact .inl h
  · exact .inr ⟨g, cap, cur, rfl, hb, hr.far og u, ht, h1, h2⟩
theorem WrN.mono {w : World} {base base' : Nat} {v : Value} {n : Nat} (h : WrN w base v n) (hb : base' ≤ base) : WrN w base' v n := by
  rcases h with h | ⟨g, cap, cur, rfl, hb', hr, ht, h1, h2⟩
  · exact .inl h
  · exact .inr ⟨g, cap, cur, rfl, by omega, hr, ht, h1, h2⟩
theorem Own.wr {w : World} {base : Nat} {A : Option Addr} {len c m : Nat} {l : List Nat} (h : Own w base 160 (.slice A len c) (cel .u32 l)) (hm : m ≤ l.length) (ht : lim (val l) = l.take m) : WrN w base (.slice A m c) (val l) := by
  have hl : (lim (val l)).length = m := by rw [ht, List.length_take, Nat.min_eq_left hm]
  rcases h.2 with ⟨hv, hn⟩ | ⟨g, cap, cur, hv, hb, hh, hn, hcm, hcs, htake⟩
  · have hx : l = [] := cel_nil_iff.1 (List.eq_nil_of_length_eq_zero hn)
    subst hx
    simp only [Value.slice.injEq] at hv
    obtain ⟨rfl, _, rfl⟩ := hv
    simp at hm
    subst hm
    exact .inl ⟨rfl, rfl⟩
  · simp only [Value.slice.injEq] at hv
    obtain ⟨rfl, _, rfl⟩ := hv
    rw [zal] at hn htake
    refine .inr ⟨g, c, cur.toList, by rw [hl], hb, ?_, ?_, by rw [hl]; omega, hcm⟩
    · unfold Row
      simpa using hh
    · rw [hl, ht, zeg, ← htake, Nat.mul_one, List.take_take, Nat.min_eq_left hm]
set_option maxRecDepth 100000 in
set_option maxHeartbeats 1000000 in
theorem rminus_w {w : World} {va vb : Value} {x y : Nat} {lo hi lo' hi' : Nat} (ha : IsN w lo hi va x) (hb : IsN w lo' hi' vb y) (hi1 : hi ≤ w.heap.size) (hi2 : hi' ≤ w.heap.size) (hle : y ≤ x) (hx : (lim x).length ≤ 4294967296) :
    Calls Tryz.prog 109 #[va, vb] w fun e w' => (∃ v, e = .returned v ∧ WrN w' w.heap.size v (x - y)) ∧ Below w.heap.size w w' := by
  have hab := zah hle
  obtain ⟨A, c, rfl, _, _, hA⟩ := ha
  obtain ⟨B, d, rfl, _, _, hB⟩ := hb
  generalize hla : lim x = a at *
  generalize hlb : lim y = b at *
  have Hal : Hid (Lo a ∧ val a = x) := by rw [Hid, ← hla]; exact ⟨zat x, zas x⟩
  have Hbl : Hid (Lo b ∧ val b = y) := by rw [Hid, ← hlb]; exact ⟨zat y, zas y⟩
  have Hle := Lib.hid hle
  clear hla hlb hle
  generalize hBs : w.heap.size = bs at *
  have HB := Lib.hid hBs; clear hBs
  go_enter Tryz.func109, Tryz.ntmps109
  go_wp2
  go_loopw [5, 6, 7] (fun v bw i wr => ∃ (k : Nat) (L : List Nat) (q : Int), k ≤ a.length ∧ i = .int .i64 (k : Int) ∧ bw = .int .i64 q ∧ 0 ≤ q ∧ q ≤ 1 ∧ Own wr bs 160 v (cel .u32 L) ∧ Below bs w wr ∧
      Hid (L.length = k ∧ Lo L ∧ (val L : Int) = val (a.take k) - val (b.take k) + q * pw k)) (fun _ _ i _ => a.length - (intOf i).toNat)
  case atStart => exact ⟨0, [], 0, by omega, rfl, rfl, by omega, by omega, Own.nil _ _ _, Below.refl _ _, rfl, lo_nil, by simp [val]⟩
  case round =>
    obtain ⟨k, L, q, hk, rfl, rfl, hq0, hq1, hown, hbw, hrel⟩ := hrel
    have hBw : bs ≤ wr.heap.size := by have := hbw.size; have := HB.out; omega
    have hkc : k ≤ 4294967297 := og
    have hlen : Hid ((cel .u32 L).length ≤ 4294967297) := by rw [Hid, zal, hrel.out.1]; omega
    rcases Nat.lt_or_ge k a.length with hka | hka
    · obtain ⟨ba, oa, rfl, _, _, hca⟩ := (hA.below hbw hi1) (zap (j := k) hka)
      obtain ⟨x1, hx1, hx10, hx11, hx1c⟩ := zaw (j := k) Hal.out.1 hca hka
      clear hca
      rcases Nat.lt_or_ge k b.length with hkb | hkb
      · obtain ⟨bb, ob, rfl, _, _, hcb⟩ := (hB.below hbw hi2) (zap (j := k) hkb)
        obtain ⟨y1, hy1, hy10, hy11, hy1c⟩ := zaw (j := k) Hbl.out.1 hcb hkb
        clear hcb
        rcases Int.lt_or_le (x1 - q - y1) 0 with hneg | hpos
        · go_wp2_with (at_builtin; refine zbp elN rfl _ _ rfl rfl hown rfl rfl (oh hlen) hBw ?_; intro v1 w1 hown1 hbw1 hz1)
          go_roundw
          case rel =>
            rw [zcl .u32 L (x1 - q - y1 + 1000000000).toNat _ og] at hown1
            exact ⟨k + 1, _, 1, by omega, by go_num, rfl, by omega, by omega, hown1, hbw.trans hbw1, by rw [List.length_append]; simp [hrel.out.1], zeb hrel.out.2.1 og, zei hrel.out.1 hx1.out hy1.out og og hrel.out.2.2⟩
          case measure => simp [intOf]; omega
        · go_wp2_with (at_builtin; refine zbp elN rfl _ _ rfl rfl hown rfl rfl (oh hlen) hBw ?_; intro v1 w1 hown1 hbw1 hz1)
          go_roundw
          case rel =>
            rw [zcl .u32 L (x1 - q - y1).toNat _ og] at hown1
            exact ⟨k + 1, _, 0, by omega, by go_num, rfl, by omega, by omega, hown1, hbw.trans hbw1, by rw [List.length_append]; simp [hrel.out.1], zeb hrel.out.2.1 og, zei hrel.out.1 hx1.out hy1.out og og hrel.out.2.2⟩
          case measure => simp [intOf]; omega
      · rcases Int.lt_or_le (x1 - q) 0 with hneg | hpos
        · go_wp2_with (at_builtin; refine zbp elN rfl _ _ rfl rfl hown rfl rfl (oh hlen) hBw ?_; intro v1 w1 hown1 hbw1 hz1)
          go_roundw
          case rel =>
            rw [zcl .u32 L (x1 - q + 1000000000).toNat _ og] at hown1
            exact ⟨k + 1, _, 1, by omega, by go_num, rfl, by omega, by omega, hown1, hbw.trans hbw1, by rw [List.length_append]; simp [hrel.out.1], zeb hrel.out.2.1 og, zei (y := 0) hrel.out.1 hx1.out (by rw [zbg hkb]; rfl) og og hrel.out.2.2⟩
          case measure => simp [intOf]; omega
        · go_wp2_with (at_builtin; refine zbp elN rfl _ _ rfl rfl hown rfl rfl (oh hlen) hBw ?_; intro v1 w1 hown1 hbw1 hz1)
          go_roundw
          case rel =>
            rw [zcl .u32 L (x1 - q).toNat _ og] at hown1
            exact ⟨k + 1, _, 0, by omega, by go_num, rfl, by omega, by omega, hown1, hbw.trans hbw1, by rw [List.length_append]; simp [hrel.out.1], zeb hrel.out.2.1 og, zei (y := 0) hrel.out.1 hx1.out (by rw [zbg hkb]; rfl) og og hrel.out.2.2⟩
          case measure => simp [intOf]; omega
    · obtain rfl : k = a.length := og
      have hv : Hid (val L = x - y) := by
        have h := sub_end (L := L) (b := b) (bw := q) hrel.out.1 rfl hab hrel.out.2.1 og (by rw [Hal.out.2, Hbl.out.2]; exact Hle.out) (by rw [zai (l := L) (Nat.le_of_eq hrel.out.1)]; exact hrel.out.2.2)
        rw [Hal.out.2, Hbl.out.2] at h
        exact h
      have hlo := Lib.hid hrel.out.2.1
      obtain ⟨A', c', hv', h1, h2, h3⟩ := hown.sl
      subst hv'
      rw [zal] at h1
      have Hown := Lib.hid hown
      have H1 := Lib.hid h1
      have H2 := Lib.hid h2
      have H3 := Lib.hid h3
      clear hown hrel h1 h2 h3
      rw [zal] at Hown ⊢
      go_wp2_with fail
      refine (rtrim_same A' c' L wr bs wr.heap.size hlo.out H1.out H2.out H3.out).mono ?_
      rintro e w2 ⟨⟨m, rfl, hm, ht⟩, rfl⟩
      have Ht := Lib.hid ht
      clear ht
      go_wp2_with fail
      go_ret
      refine ⟨⟨_, rfl, ?_⟩, hbw⟩
      rw [← hv.out]
      exact Own.wr Hown.out hm Ht.out
theorem rminus_n {w : World} {va vb : Value} {x y : Nat} {lo hi lo' hi' : Nat} (ha : IsN w lo hi va x) (hb : IsN w lo' hi' vb y) (hi1 : hi ≤ w.heap.size) (hi2 : hi' ≤ w.heap.size) (hle : y ≤ x) (hx : (lim x).length ≤ 4294967296) :
    Calls Tryz.prog 109 #[va, vb] w fun e w' => (∃ v, e = .returned v ∧ IsN w' w.heap.size w'.heap.size v (x - y)) ∧ Below w.heap.size w w' :=
  (rminus_w ha hb hi1 hi2 hle hx).mono fun e w' ⟨⟨v, he, hv⟩, hw⟩ => ⟨⟨v, he, hv.isN⟩, hw⟩
set_option maxHeartbeats 400000 in
theorem rorder_list (A B : Option Addr) (c d : Nat) (a b : List Nat) (w : World) (lo hi lo' hi' : Nat) (ha : Lo a) (hb : Lo b) (hal : a.length ≤ maxLen) (hbl : b.length ≤ maxLen) (hA : SV w lo hi A (cel .u32 a)) (hB : SV w lo' hi' B (cel .u32 b))
    (r : Int) (hr1 : a.length < b.length → r = -1) (hr2 : b.length < a.length → r = 1) (hr3 : a.length = b.length → r = sgn (val a) (val b)) :
    Calls Tryz.prog 108 #[.slice A a.length c, .slice B b.length d] w fun e w' => e = .returned (.int .i64 r) ∧ Dr w w' := by
  unfold maxLen at hal hbl
  have Ha := Lib.hid ha; clear ha
  have Hb := Lib.hid hb; clear hb
  have Hr3 := Lib.hid hr3; clear hr3
  rcases Nat.lt_trichotomy a.length b.length with h | h | h
  · have Hr := Lib.hid (hr1 h); clear hr1 hr2
    go_enter Tryz.func108, Tryz.ntmps108
    go_wp2
    go_ret
    exact ⟨zae Hr.out.symm, Dr.refl w⟩
  · have Hr := Lib.hid (Hr3.out h); clear hr1 hr2 Hr3
    have hne : (((a.length : Int)) != (b.length : Int)) = false := by simp [h]
    have H := Lib.hid h
    have h1 : a.length ≤ b.length := og
    have h2 : b.length ≤ a.length := og
    clear h
    go_enter Tryz.func108, Tryz.ntmps108
    go_wp2
    go_loopw [5] (fun i wr => ∃ k : Nat, k ≤ a.length ∧ i = .int .i64 ((k : Int) - 1) ∧ Dr w wr ∧ Hid (a.drop k = b.drop k)) (fun i _ => (intOf i + 1).toNat)
    case atStart => exact ⟨a.length, Nat.le_refl _, rfl, Dr.refl w, by rw [List.drop_length, H.out, List.drop_length]; rfl⟩
    case round =>
      obtain ⟨k, hk, rfl, ⟨n, rfl⟩, hd⟩ := hrel
      rcases k with _ | k
      · go_wp2
        go_ret
        refine ⟨zae ?_, (Dr.refl w).drewN n⟩
        have := hd.out
        simp only [List.drop_zero] at this
        rw [Hr.out, sgn_eq (by rw [this])]
      · obtain ⟨ba, oa, rfl, _, _, hca⟩ := hA (zap hk)
        obtain ⟨bb, ob, rfl, _, _, hcb⟩ := hB (zap (Nat.le_trans hk h1))
        obtain ⟨x, hx, hx0, hxc⟩ := zbo (j := k) hca og
        obtain ⟨y, hy, hy0, hyc⟩ := zbo (j := k) hcb og
        clear hca hcb
        rw [show (((k + 1 : Nat) : Int) - 1) = (k : Int) from by omega]
        go_wp2
        go_quiet (fail)
        go_wp2
        · go_ret
          refine ⟨zae ?_, ((Dr.refl w).drewN n).drewN _⟩
          have hlt : x < y := by assumption
          rw [Hr.out, zdl (zfn Ha.out Hb.out H.out og hd.out (oh2 hx hy))]
        · go_quiet (fail)
          go_wp2
          · go_ret
            refine ⟨zae ?_, (((Dr.refl w).drewN n).drewN _).drewN _⟩
            have hlt : y < x := by assumption
            rw [Hr.out, zfj (zfn Hb.out Ha.out H.out.symm og hd.out.symm (oh2 hx hy))]
          · go_roundw
            case rel =>
              have g1 : y ≤ x := by assumption
              have g2 : x ≤ y := by assumption
              exact ⟨k, by omega, rfl, ⟨_, rfl⟩, Lib.hid (drop_step H.out og hd.out (oh2 hx hy))⟩
            case measure => simp [intOf]
  · have Hr := Lib.hid (hr2 h); clear hr1 hr2
    go_enter Tryz.func108, Tryz.ntmps108
    go_wp2
    go_ret
    exact ⟨zae Hr.out.symm, Dr.refl w⟩
theorem zfi {w : World} {va vb : Value} {x y lo hi lo' hi' : Nat} (ha : IsN w lo hi va x) (hb : IsN w lo' hi' vb y) :
    Calls Tryz.prog 108 #[va, vb] w fun e w' => e = .returned (.int .i64 (sgn x y)) ∧ Dr w w' := by
  have h1 := ha.length_le
  have h2 := hb.length_le
  obtain ⟨A, c, rfl, _, _, hA⟩ := ha
  obtain ⟨B, d, rfl, _, _, hB⟩ := hb
  refine rorder_list A B c d (lim x) (lim y) w _ _ _ _ (zat x) (zat y) h1 h2 hA hB _ ?_ ?_ ?_
  · intro h; exact zdl (zcn h)
  · intro h; exact zfj (zcn h)
  · intro _; rw [zas, zas]
end Go.Proofs.YtijjjbgnpfjpmaaGreatDoor
namespace Go.Proofs.YtijjjbgnpfjpmaaGreatDoor
theorem drop_lt {l : List Nat} (h : Lo l) {k n : Nat} (hk : l.length ≤ k + n) : val (l.drop k) < pw n := by
  have h1 := zbz (lo_drop h k)
  have h2 : pw (l.drop k).length ≤ pw n := pw_mono (by rw [List.length_drop]; omega)
  omega
theorem val_drop_div (R k : Nat) : val ((lim R).drop k) = R / pw k := by
  rcases Nat.lt_or_ge (lim R).length k with h | h
  · rw [List.drop_eq_nil_of_le og, zev, Nat.div_eq_of_lt (lim_len_le.1 og)]
  · have h1 := zbm (lim R) k h
    rw [zas] at h1
    have h2 := zbz (zbk (zat R) k)
    rw [List.length_take, Nat.min_eq_left h] at h2
    conv => rhs; rw [h1]
    rw [Nat.add_mul_div_left _ _ (zcy k), Nat.div_eq_of_lt h2, Nat.zero_add]
theorem top_le {B n : Nat} : (lim B).getD n 0 * pw n ≤ B := by
  rw [zcx]
  have h1 := Nat.div_mul_le_self B (pw n)
  have h2 := Nat.mul_le_mul_right (pw n) (Nat.mod_le (B / pw n) 1000000000)
  omega
theorem top_ge {B n : Nat} (hn : (lim B).length = n + 1) : 1 ≤ (lim B).getD n 0 := by
  rw [zcx]
  have h1 : pw n ≤ B := lim_len_lt.1 og
  have h2 : B < pw (n + 1) := lim_len_le.1 og
  rw [zax] at h2
  have h3 : B / pw n < 1000000000 := by rw [Nat.div_lt_iff_lt_mul (zcy n)]; exact h2
  rw [Nat.mod_eq_of_lt h3]
  exact Nat.div_pos h1 (zcy n)
theorem guess_ge {R B n : Nat} (hn : (lim B).length = n + 1) (hR : R < B * 1000000000) {d : Nat} (hd : d = 999999999 ∨ d = R / pw n / (lim B).getD n 0) : R < (d + 1) * B := by
  rcases hd with rfl | rfl
  · rw [Nat.mul_comm]; exact hR
  · have ht := top_ge hn
    have h1 := Nat.lt_div_mul_add (a := R / pw n) (b := (lim B).getD n 0) og
    have h2 := Nat.lt_div_mul_add (a := R) (b := pw n) (zcy n)
    generalize R / pw n / (lim B).getD n 0 = d at *
    generalize hl : R / pw n = l at *
    have h3 : l + 1 ≤ (d + 1) * (lim B).getD n 0 := by rw [Nat.add_mul, Nat.one_mul]; omega
    have h4 := Nat.mul_le_mul_right (pw n) h3
    have h5 := Nat.mul_le_mul_left (d + 1) (top_le (B := B) (n := n))
    rw [Nat.add_mul, Nat.one_mul] at h4
    rw [Nat.mul_assoc] at h4
    omega
theorem lead_lt {R B n : Nat} (hn : (lim B).length = n + 1) (hR : R < B * 1000000000) : (lim R).length ≤ n + 2 ∧ R / pw n < 1000000000000000000 := by
  have h1 : B < pw (n + 1) := lim_len_le.1 og
  have h2 : R < pw (n + 2) := by
    rw [show n + 2 = (n + 1) + 1 from rfl, zax, Nat.mul_comm]
    exact Nat.lt_of_lt_of_le hR (Nat.mul_le_mul_right _ (Nat.le_of_lt h1))
  refine ⟨lim_len_le.2 h2, ?_⟩
  rw [Nat.div_lt_iff_lt_mul (zcy n)]
  rw [show n + 2 = (n + 1) + 1 from rfl, zax, zax] at h2
  omega
theorem lead_at {R n j q : Nat} (h : q = val ((lim R).drop j)) (hj : j = n ∨ (j = (lim R).length ∧ j ≤ n)) : q = R / pw n := by
  rcases hj with rfl | ⟨rfl, h1⟩
  · rw [h, val_drop_div]
  · rw [h, List.drop_length, zev, Nat.div_eq_of_lt (lim_len_le.1 h1)]
theorem cons_val {a R : Nat} : val (a :: lim R) = a + 1000000000 * R := by rw [val_cons, zas]
theorem cons_lt {a R B : Nat} (ha : a < 1000000000) (hR : R < B) : a + 1000000000 * R < B * 1000000000 := og
theorem digit_down {R B d : Nat} (h : R < B * d) : 1 ≤ d ∧ R < (d - 1 + 1) * B := by
  rcases d with _ | d
  · simp at h
  · exact ⟨by omega, by rw [Nat.add_sub_cancel, Nat.mul_comm]; exact h⟩
theorem digit_exact {R B d : Nat} (h1 : d * B ≤ R) (h2 : R < (d + 1) * B) : R - d * B < B ∧ R - d * B = R % B ∧ d = R / B := by
  have hB : 0 < B := by
    rcases Nat.eq_zero_or_pos B with h | h
    · subst h; simp at h2
    · exact h
  have h3 : R / B = d := Nat.div_eq_of_lt_le h1 h2
  rw [Nat.add_mul, Nat.one_mul] at h2
  exact ⟨by omega, by rw [Nat.mod_eq_sub_mul_div, h3, Nat.mul_comm], h3.symm⟩
theorem over_step {A Q : List Nat} {k B R d R' : Nat} (hk : k < A.length) (hq : k < Q.length) (h : val (A.drop (k + 1)) = B * val (Q.drop (k + 1)) + R) (hR : A.getD k 0 + 1000000000 * R = R') (h1 : d * B ≤ R') :
    val (A.drop k) = B * val ((Q.set k d).drop k) + (R' - d * B) := by
  rw [zda hk, h, drop_set hq]
  have e : B * (d + 1000000000 * val (Q.drop (k + 1))) = d * B + 1000000000 * (B * val (Q.drop (k + 1))) := by grind
  rw [e, Nat.mul_add]
  omega
theorem drop_isLim (X k : Nat) : lim (val ((lim X).drop k)) = (lim X).drop k := by
  apply lim_of_len (lo_drop (zat X) k)
  rcases Nat.lt_or_ge k (lim X).length with h | h
  · right
    rw [List.length_drop, val_drop_div, Nat.le_div_iff_mul_le (zcy k), ← pw_add]
    exact lim_len_lt.1 og
  · exact .inl (List.drop_eq_nil_of_le h)
def bs (l : List Nat) : ByteArray := ⟨(l.map UInt8.ofNat).toArray⟩
end Go.Proofs.YtijjjbgnpfjpmaaGreatDoor
namespace Go.Proofs.YtijjjbgnpfjpmaaGreatDoor
open Go.RowKit
end Go.Proofs.YtijjjbgnpfjpmaaGreatDoor
namespace Go.Proofs.YtijjjbgnpfjpmaaGreatDoor
open Go.RowKit
set_option linter.unusedVariables false
theorem Own.row {w : World} {base : Nat} {e : TypeId} {v : Value} {xs : List Value} (h : Own w base e v xs) (hx : xs ≠ []) :
    ∃ g sp cap, v = .slice (some ⟨g, 0, none⟩) xs.length cap ∧ base ≤ g ∧ Row w g e (xs ++ sp) ∧ xs.length ≤ cap ∧ cap ≤ maxLen := by
  rcases h.2 with ⟨_, hn⟩ | ⟨g, cap, cur, hv, hb, hh, hn, hcm, hcs, htake⟩
  · exact absurd (List.eq_nil_of_length_eq_zero hn) hx
  · refine ⟨g, cur.toList.drop xs.length, cap, hv, hb, ?_, hn, hcm⟩
    unfold Row
    rw [Nat.mul_one] at htake
    have e : xs ++ List.drop xs.length cur.toList = cur.toList := by
      conv => lhs; lhs; rw [← htake]
      exact List.take_append_drop _ _
    rw [e]
    exact hh
theorem Row.numS {w : World} {g : Nat} {t : TypeId} {k : IntKind} {l : List Nat} {sp : List Value} (h : Row w g t (cel k l ++ sp)) {i : Nat} (hi : i < l.length) :
    ∃ x : Int, Hid (x = (l.getD i 0 : Nat)) ∧ 0 ≤ x ∧ w.cell? ⟨g, i, none⟩ = some (.int k x) := by
  refine ⟨_, rfl, by omega, ?_⟩
  rw [h.cell, List.getElem?_append_left (by rw [zal]; exact hi), zdf hi]
theorem Row.setS {w : World} {g : Nat} {t : TypeId} {k : IntKind} {l : List Nat} {sp : List Value} (h : Row w g t (cel k l ++ sp)) (i n : Nat) (hi : i < l.length) (x : Int) (hx : x = (n : Int)) :
    Row (w.setCell ⟨g, i, none⟩ (.int k x)) g t (cel k (l.set i n) ++ sp) := by
  subst hx
  rw [cel_set, ← List.set_append_left _ _ (by rw [zal]; exact hi)]
  exact h.set_ i _
set_option maxHeartbeats 400000 in
theorem small_n (w : World) (n : Int) (h0 : 0 ≤ n) (h9 : n ≤ 999999999) :
    Calls Tryz.prog 215 #[.int .u32 n] w fun e w' => (∃ v, e = .returned v ∧ IsN w' w.heap.size w'.heap.size v n.toNat) ∧ Below w.heap.size w w' := by
  obtain ⟨m, rfl⟩ := Int.eq_ofNat_of_zero_le h0
  have h := isL_new .u32 w 160 [m] (by simp [maxLen])
  have hl : IsL .u32 (w.alloc (.cells #[.int .u32 (m : Int)] 160)) w.heap.size (w.heap.size + 1) (.slice (some ⟨w.heap.size, 0, none⟩) 1 1) [m] := h
  have Hl := Lib.hid hl
  go_enter Tryz.func215, Tryz.ntmps215
  go_wp2_with fail
  refine (rtrim_l Hl.out (by intro x hx; simp at hx; omega)).mono ?_
  rintro e w1 ⟨⟨v, rfl, hv⟩, rfl⟩
  go_wp2_with fail
  go_ret
  refine ⟨⟨_, rfl, ?_⟩, (Below.refl _ _).alloc (Nat.le_refl _) _⟩
  rw [World.size_alloc, Int.toNat_natCast]
  have e : val [m] = m := by simp [val]
  rw [e] at hv
  exact hv
theorem IsN.upB {w w' : World} {v : Value} {n lo : Nat} (h : IsN w lo w.heap.size v n) (hb : Below w.heap.size w w') : IsN w' 0 w'.heap.size v n := (h.below hb (Nat.le_refl _)).wide (Nat.zero_le _) hb.size
theorem own_lit1 (w : World) (x : Int) (n : Nat) (h : x = (n : Int)) : Own (w.alloc (.cells #[.int .u32 x] 160)) w.heap.size 160 (.slice (some ⟨w.heap.size, 0, none⟩) 1 1) (cel .u32 [n]) := by
  subst h
  refine ⟨by simp [cel], .inr ⟨w.heap.size, 1, #[.int .u32 (n : Int)], rfl, Nat.le_refl _, heap_alloc_new w _, by simp [cel], by unfold maxLen; omega, rfl, by simp [cel]⟩⟩
def Wl (w : World) (base : Nat) (A : Option Addr) (L : List Nat) : Prop := L ≠ [] → ∃ g sp, A = some ⟨g, 0, none⟩ ∧ base ≤ g ∧ Row w g 160 (cel .u32 L ++ sp)
theorem WrN.wl {w : World} {base : Nat} {v : Value} {n : Nat} (h : WrN w base v n) : ∃ A cap, v = .slice A (lim n).length cap ∧ (lim n).length ≤ cap ∧ cap ≤ maxLen ∧ Wl w base A (lim n) := by
  rcases h with ⟨rfl, rfl⟩ | ⟨g, cap, cur, rfl, hb, hr, ht, h1, h2⟩
  · exact ⟨none, 0, by rw [lim_zero]; rfl, by rw [lim_zero]; exact Nat.le_refl _, Nat.zero_le _, fun h => absurd lim_zero h⟩
  · refine ⟨_, cap, rfl, h1, h2, fun _ => ⟨g, cur.drop (lim n).length, rfl, hb, ?_⟩⟩
    rw [← ht, List.take_append_drop]
    exact hr
theorem Wl.isL {w : World} {base : Nat} {A : Option Addr} {L : List Nat} {c : Nat} (h : Wl w base A L) (h1 : L.length ≤ c) (h2 : c ≤ maxLen) : IsL .u32 w base w.heap.size (.slice A L.length c) L := by
  refine ⟨A, c, rfl, h1, h2, fun hne => ?_⟩
  obtain ⟨g, sp, rfl, hb, hr⟩ := h (by rintro rfl; exact hne rfl)
  refine ⟨g, 0, rfl, hb, hr.lt, fun j u hu => ?_⟩
  rw [Nat.zero_add, hr.cell, List.getElem?_append_left (List.getElem?_eq_some_iff.1 hu).1]
  exact hu
def OverSt (w3 wx : World) (N : Nat) (l : List Nat) (s4 s5 : Value) : Prop := ∃ (G lo hi : Nat), s4 = .slice (some ⟨G, 0, none⟩) N N ∧ Row wx G 160 (cel .u32 (List.replicate N 0)) ∧ w3.heap.size ≤ G ∧ IsL .u32 wx lo hi s5 l ∧ (G < lo ∨ hi ≤ G) ∧ w3.heap.size ≤ lo ∧ hi ≤ wx.heap.size ∧ Below w3.heap.size w3 wx
theorem OverSt.both {w3 : World} {N : Nat} {zs : Array Value} (hz : zs = (cel .u32 (List.replicate N 0)).toArray) : OverSt w3 (w3.alloc (.cells zs 160)).drew N [] (.slice (some ⟨w3.heap.size, 0, none⟩) N N) (.slice none 0 0) := by
  subst hz
  refine ⟨w3.heap.size, w3.heap.size + 1, w3.heap.size + 1, rfl, ?_, Nat.le_refl _, IsL.nil, .inl og, by omega, ?_, ?_⟩
  · exact heap_alloc_new w3 _
  · show _ ≤ (w3.alloc _).heap.size; rw [World.size_alloc]; omega
  · exact below_drewN ((Below.refl _ w3).alloc (Nat.le_refl _) _) 1
theorem OverSt.makeFirst {w3 wr : World} {N : Nat} {zs : Array Value} {l : List Nat} {vr : Value} (hz : zs = (cel .u32 (List.replicate N 0)).toArray) (ho : Own wr (w3.alloc (.cells zs 160)).drew.heap.size 160 vr ([] ++ cel .u32 l)) (hb : Below (w3.alloc (.cells zs 160)).drew.heap.size (w3.alloc (.cells zs 160)).drew wr) :
    OverSt w3 wr N l (.slice (some ⟨w3.heap.size, 0, none⟩) N N) vr := by
  subst hz
  have hsz : (w3.alloc (.cells (cel .u32 (List.replicate N 0)).toArray 160)).drew.heap.size = w3.heap.size + 1 := World.size_alloc _ _
  have h0 : Below w3.heap.size w3 (w3.alloc (.cells (cel .u32 (List.replicate N 0)).toArray 160)).drew := below_drewN ((Below.refl _ w3).alloc (Nat.le_refl _) _) 1
  rw [List.nil_append] at ho
  refine ⟨w3.heap.size, _, _, rfl, ?_, Nat.le_refl _, Own.isL ho, .inl (by rw [hsz]; omega), by rw [hsz]; omega, Nat.le_refl _, h0.trans (hb.mono (by rw [hsz]; omega))⟩
  exact (hb.block w3.heap.size (by rw [hsz]; omega)).trans (heap_alloc_new w3 _)
theorem OverSt.appFirst {w3 wr : World} {N : Nat} {zs : Array Value} {l : List Nat} {vr : Value} (hz : zs = (cel .u32 (List.replicate N 0)).toArray) (ho : Own wr w3.drew.heap.size 160 vr ([] ++ cel .u32 l)) (hb : Below w3.drew.heap.size w3.drew wr) :
    OverSt w3 (wr.alloc (.cells zs 160)) N l (.slice (some ⟨wr.heap.size, 0, none⟩) N N) vr := by
  subst hz
  rw [List.nil_append] at ho
  have h0 : Below w3.heap.size w3 wr := (below_drewN (Below.refl _ w3) 1).trans hb
  refine ⟨wr.heap.size, w3.heap.size, wr.heap.size, rfl, heap_alloc_new wr _, h0.size, ?_, .inr (Nat.le_refl _), Nat.le_refl _, by rw [World.size_alloc]; omega, h0.alloc h0.size _⟩
  exact (Own.isL ho).below ((Below.refl _ wr).alloc (Nat.le_refl _) _) (Nat.le_refl _)
set_option maxHeartbeats 400000 in
theorem rover_smallF {w : World} {va vb : Value} {x y : Nat} (ha : IsN w 0 w.heap.size va x) (hb : IsN w 0 w.heap.size vb y) (hlt : x < y) :
    Calls Tryz.prog 174 #[va, vb] w fun e w' => (∃ q r, e = .returned (.tuple #[q, r]) ∧ IsN w' w.heap.size w'.heap.size q (x / y) ∧ IsN w' 0 w'.heap.size r (x % y)) ∧ Below w.heap.size w w' := by
  have Ha := Lib.hid ha
  have Hb := Lib.hid hb
  obtain ⟨A, c, rfl, _, _, _⟩ := ha
  obtain ⟨B, d, rfl, _, _, _⟩ := hb
  rw [Nat.div_eq_of_lt hlt, Nat.mod_eq_of_lt hlt]
  have hs := Lib.hid (zdl hlt)
  go_enter Tryz.func174, Tryz.ntmps174
  go_wp2_with fail
  refine (zfi Ha.out Hb.out).mono ?_
  rw [hs.out]
  rintro e w1 ⟨rfl, q, rfl⟩
  go_wp2_with fail
  go_ret2
  exact ⟨⟨_, _, rfl, IsN.zero, Ha.out.drewN q⟩, below_drewN (Below.refl _ _) q⟩
set_option maxRecDepth 100000 in
set_option maxHeartbeats 1600000 in
theorem rover_longF {w : World} {va vb : Value} {x y : Nat} (ha : IsN w 0 w.heap.size va x) (hb : IsN w 0 w.heap.size vb y) (hle : y ≤ x) (hy0 : 0 < y) (hx9 : (lim x).length ≤ 2000000000) :
    Calls Tryz.prog 174 #[va, vb] w fun e w' => (∃ q r, e = .returned (.tuple #[q, r]) ∧ IsN w' w.heap.size w'.heap.size q (x / y) ∧ IsN w' 0 w'.heap.size r (x % y)) ∧ Below w.heap.size w w' := by
  have Ha := Lib.hid ha
  have Hb := Lib.hid hb
  have hly : 1 ≤ (lim y).length := by have := lim_nil_iff (n := y); omega
  have hxy := zah hle
  obtain ⟨A, c, rfl, _, _, _⟩ := ha
  obtain ⟨B, d, rfl, _, _, hB⟩ := hb
  have hs0 : 0 ≤ sgn x y := by
    unfold sgn
    rw [if_neg og]
    split <;> omega
  generalize hsg : sgn x y = sg at *
  have Hsg := Lib.hid hsg
  obtain ⟨bb, ob, rfl, _, _, hcb⟩ := hB (zap (j := (lim y).length - 1) og)
  obtain ⟨t, ht, ht0, ht1, htc⟩ := zaw (j := (lim y).length - 1) (zat y) hcb og
  have ht2 : 1 ≤ t := by
    have := top_ge (B := y) (n := (lim y).length - 1) og
    have := ht.out
    omega
  have hf0 : 1 ≤ 1000000000 / (t + 1) := by
    rw [Int.le_ediv_iff_mul_le og]
    omega
  have hf1 : 1000000000 / (t + 1) ≤ 500000000 := by
    apply Int.ediv_le_of_le_mul og
    omega
  have htd : ∀ q, (w.drewN q).cell? ⟨bb, ob + ((lim y).length - 1), none⟩ = some (.int .u32 t) := fun _ => htc
  have Htd := Lib.hid htd
  have Hle := Lib.hid hle
  have Hxy := Lib.hid hxy
  clear hcb htc htd hsg hle
  go_enter Tryz.func174, Tryz.ntmps174
  go_wp2_with fail
  refine (zfi Ha.out Hb.out).mono ?_
  rw [Hsg.out]
  rintro e w1 ⟨rfl, q, rfl⟩
  have hct := Htd.out q
  go_wp2_with fail
  generalize hF : 1000000000 / (t + 1) = F at *
  clear hF
  refine (small_n (w.drewN q) F og og).mono ?_
  rintro e w1 ⟨⟨vf, rfl, hf⟩, hb1⟩
  have hbw1 : Below w.heap.size w w1 := (below_drewN (Below.refl _ w) q).trans hb1
  have Hf1 := Lib.hid (hf.wide (lo' := 0) (Nat.zero_le _) (Nat.le_refl _))
  have Ha1 := Lib.hid (Ha.out.upB hbw1)
  have Hb1 := Lib.hid (Hb.out.upB hbw1)
  have Hbw1 := Lib.hid hbw1
  have hfl : Hid ((lim F.toNat).length ≤ 1) := lim_len_le.2 (by rw [pw_one]; omega)
  clear hf hb1 hct Htd hbw1
  go_wp2_with fail
  refine (zcq Ha1.out Hf1.out (Nat.le_refl _) (Nat.le_refl _) og (oh hfl)).mono ?_
  rintro e w2 ⟨⟨va2, rfl, hva⟩, hb2⟩
  have HA2 := Lib.hid (hva.wide (lo' := 0) (Nat.zero_le _) (Nat.le_refl _))
  have Hf2 := Lib.hid (Hf1.out.upB hb2)
  have Hb2 := Lib.hid (Hb1.out.upB hb2)
  have Hbw2 := Lib.hid (below_trans' Hbw1.out hb2)
  clear hva hb2 Ha1 Hf1 Hb1
  go_wp2_with fail
  refine (zcq Hb2.out Hf2.out (Nat.le_refl _) (Nat.le_refl _) og (oh hfl)).mono ?_
  rintro e w3 ⟨⟨vb3, rfl, hvb⟩, hb3⟩
  have HB3 := Lib.hid (hvb.wide (lo' := 0) (Nat.zero_le _) (Nat.le_refl _))
  have HA3 := Lib.hid (HA2.out.upB hb3)
  have Hf3 := Lib.hid (Hf2.out.upB hb3)
  have Hbw3 := Lib.hid (below_trans' Hbw2.out hb3)
  clear hvb hb3 HA2 Hf2 Hb2
  obtain ⟨X, hX⟩ : ∃ X, X = x * F.toNat := ⟨_, rfl⟩
  obtain ⟨Y, hY⟩ : ∃ Y, Y = y * F.toNat := ⟨_, rfl⟩
  rw [← hX] at HA3
  rw [← hY] at HB3
  have hYp : 0 < Y := by rw [hY]; exact Nat.mul_pos hy0 og
  have hYX : Y ≤ X := by rw [hX, hY]; exact Nat.mul_le_mul_right _ Hle.out
  have hm9 : (lim X).length ≤ 2000000001 := by rw [hX]; have := lim_len_mul x F.toNat; have := hfl.out; omega
  have hnm := zah hYX
  have hn1 : 1 ≤ (lim Y).length := by have := lim_nil_iff (n := Y); omega
  have HX := Lib.hid hX
  have HY := Lib.hid hY
  have hlf : Hid (lim F.toNat = [F.toNat]) := zcs og og
  have Hf3' := Hf3.out
  unfold IsN at Hf3'
  rw [hlf.out] at Hf3'
  obtain ⟨Af, cf, rfl, _, _, hfs⟩ := Hf3'
  obtain ⟨fb, fo, rfl, _, hfbl, hfc⟩ := hfs (by simp [cel])
  have hfc0 := hfc 0 (.int .u32 F) (by simp [cel]; omega)
  simp only [List.length_cons, List.length_nil, Nat.zero_add] at *
  have Hfc := Lib.hid (And.intro hfbl hfc0)
  obtain ⟨A2, cA, rfl, hcA, hcAm, hAs⟩ := HA3.out
  obtain ⟨B2, cB, rfl, hcB, hcBm, hBs⟩ := HB3.out
  obtain ⟨b2, o2, rfl, _, hb2l, hbc⟩ := hBs (zap (j := (lim Y).length - 1) og)
  obtain ⟨T, hT, hT0, hT1, hTc⟩ := zaw (j := (lim Y).length - 1) (zat Y) hbc og
  have HAs := Lib.hid hAs
  have HBs := Lib.hid hBs
  have hT2 : 1 ≤ T := by
    have := top_ge (B := Y) (n := (lim Y).length - 1) og
    have := hT.out
    omega
  generalize hm : (lim X).length = m at *
  generalize hn : (lim Y).length = n at *
  have Hm := Lib.hid hm
  have Hn := Lib.hid hn
  clear hX hY hfc hfc0 hbc hAs hBs hm hn hfs hB hYX Hf3
  go_wp2_with fail
  go_cut [4, 5] (fun s4 s5 wx => OverSt w3 wx (m - n + 1) ((lim X).drop (m - n + 1)) s4 s5)
  case first =>
    have u1 : IntKind.i64.wrap ((m : Int) - (n : Int)) = (m : Int) - (n : Int) := IntWalk.i64_in _ og
    have u2 : IntKind.i64.wrap ((m : Int) - (n : Int) + 1) = (m : Int) - (n : Int) + 1 := IntWalk.i64_in _ og
    obtain ⟨zs, hzs, hmk⟩ := make_rule Tryz.prog elN ((m : Int) - (n : Int) + 1) (m - n + 1) og og
    have Hzs := Lib.hid hzs
    clear hzs
    have u3 : 0 ≤ (m : Int) - (n : Int) + 1 := og
    have u4 : (m : Int) - (n : Int) + 1 ≤ (m : Int) := og
    have u5 : ((m : Int) - (n : Int) + 1).toNat = m - n + 1 := og
    have hdl : ((cel .u32 (lim X)).drop (m - n + 1)).length = m - (m - n + 1) := by rw [List.length_drop, zal, Hm.out]
    have hd1 : ∀ u ∈ (cel .u32 (lim X)).drop (m - n + 1), u.oneCell' = true := fun u hu => cel_one _ _ u (List.mem_of_mem_drop hu)
    have Hcut := Lib.hid (And.intro hdl hd1)
    obtain ⟨ba, oa, rfl, _, hbal, _⟩ := HAs.out (zap (j := 0) (by rw [Hm.out]; omega))
    have hcut : SV w3 0 w3.heap.size (if cA = m - n + 1 then some ⟨ba, oa, none⟩ else (some ⟨ba, oa, none⟩ : Option Addr).map (fun x => x.add (m - n + 1))) ((cel .u32 (lim X)).drop (m - n + 1)) := HAs.out.cut (by rw [zal, Hm.out]; exact hcA)
    clear hdl hd1
    by_cases hck : cA = m - n + 1
    · rw [if_pos hck] at hcut
      have HS := Lib.hid hcut
      clear hcut
      subst hck
      have hnil : (lim X).drop (m - n + 1) = [] := List.drop_eq_nil_of_le (by rw [Hm.out]; omega)
      have Hnil := Lib.hid hnil
      clear hnil
      go_region_law (fail)
      all_goals
        go_wp2_with fail
        go_meet
        rw [Hnil.out]
        exact OverSt.both Hzs.out
    · rw [if_neg hck] at hcut
      simp only [Option.map_some, Addr.add_lit] at hcut
      have HS := Lib.hid hcut
      clear hcut
      go_region_law ((refine step_app (lo := 0) (hi := w3.heap.size) (v := .slice none 0 0) (xs := []) (A := some ⟨ba, oa + (m - n + 1), none⟩) (m := m - (m - n + 1)) (c := cA - (m - n + 1)) elN rfl (.tmp 52) (.tmp 59) rfl (by simp [Act.eval, Act.put]) (Own.nil _ _ _) (by simp [Act.eval, Act.put]) Hcut.out.1 (by first | (with_reducible exact HS.out.drew) | (with_reducible exact (HS.out.alloc (Nat.le_refl _) _).drew)) Hcut.out.2 (by simp only [List.length_nil]; omega) (Nat.le_refl _) ?_; intro vr wr hown hba hsa))
      all_goals
        go_wp2_with fail
        go_meet
        first
          | (with_reducible exact OverSt.makeFirst Hzs.out (by rw [cel_drop]; exact hown) hba)
          | (with_reducible exact OverSt.appFirst Hzs.out (by rw [cel_drop]; exact hown) hba)
  case rest =>
    obtain ⟨G, lo, hi, rfl, hrow, hG3, hL, hsep, hlo3, hhi, hbx⟩ := hcut
    have hR0 : Hid (val ((lim X).drop (m - n + 1)) < Y) := by
      have h1 := drop_lt (zat X) (k := m - n + 1) (n := n - 1) (by rw [Hm.out]; omega)
      have h2 : pw (n - 1) ≤ Y := lim_len_lt.1 (by rw [Hn.out]; omega)
      unfold Hid
      omega
    have hN0 : IsN wc lo hi u5 (val ((lim X).drop (m - n + 1))) := by
      unfold IsN
      rw [drop_isLim]
      exact hL
    have HX3 := Lib.hid HAs.out
    clear hL Ha Hb Hbw1 Hbw2
    go_wp2_with fail
    go_loopw [5, 9] (fun s5 s9 wr => ∃ (k : Nat) (Lq : List Nat) (R lo hi : Nat), k ≤ m - n + 1 ∧ s9 = .int .i64 ((k : Int) - 1) ∧ Row wr G 160 (cel .u32 Lq) ∧ IsN wr lo hi s5 R ∧ (G < lo ∨ hi ≤ G) ∧ w3.heap.size ≤ lo ∧ hi ≤ wr.heap.size ∧ Below w3.heap.size w3 wr ∧
        Hid (Lq.length = m - n + 1 ∧ Lo Lq ∧ R < Y ∧ val ((lim X).drop k) = Y * val (Lq.drop k) + R ∧ (k < m - n + 1 → WrN wr (G + 1) s5 R))) (fun _ s9 _ => (intOf s9 + 1).toNat)
    case atStart =>
      exact ⟨m - n + 1, _, _, lo, hi, Nat.le_refl _, int_eq og, hrow, hN0, hsep, hlo3, hhi, hbx, by simp, zbr _, hR0.out, by rw [show (List.replicate (m - n + 1) 0).drop (m - n + 1) = [] from by simp, zev, Nat.mul_zero, Nat.zero_add], fun h => absurd h (Nat.lt_irrefl _)⟩
    case round =>
      clear hrow hN0 hsep hlo3 hhi hbx hR0
      obtain ⟨k, Lq, R, lo, hi, hk, rfl, hrow, hN, hsep, hlo3, hhi, hbx, hrel⟩ := hrel
      rcases k with _ | k
      · obtain ⟨AR, cR, rfl, hcR1, hcR2, hwl⟩ := (hrel.out.2.2.2.2 og).wl
        have HRel := Lib.hid (hrel.out)
        have hls : Hid (∀ j, (lim R).getD j 0 = (lim R).getD j 0) := fun _ => rfl
        have hLR : Hid ((lim R).length = (lim R).length ∧ Lo (lim R)) := ⟨rfl, zat R⟩
        have hRn : (lim R).length ≤ n := by rw [← Hn.out]; exact zah (Nat.le_of_lt hrel.out.2.2.1)
        clear hrel hN hsep hlo3 hhi
        go_wp2_with fail
        have hu5 : (0 : Int) ≤ F - 1 := og
        go_loopw [13, 14] (fun s13 s14 wi => ∃ (i : Nat) (L : List Nat) (rs : Int), i ≤ L.length ∧ s14 = .int .i64 ((i : Int) - 1) ∧ s13 = .int .u64 rs ∧ 0 ≤ rs ∧ rs ≤ F - 1 ∧ Wl wi (G + 1) AR L ∧ Row wi G 160 (cel .u32 Lq) ∧ Below w3.heap.size w3 wi ∧
          Hid (L.length = (lim R).length ∧ Lo L ∧ (∀ j, j < i → L.getD j 0 = (lim R).getD j 0) ∧ (val ((lim R).drop i) : Int) = val (L.drop i) * F + rs)) (fun _ s14 _ => (intOf s14 + 1).toNat)
        case atStart => exact ⟨(lim R).length, lim R, 0, Nat.le_refl _, rfl, rfl, Int.le_refl _, hu5, hwl, hrow, hbx, rfl, zat R, fun _ _ => rfl, by simp [val]⟩
        case round =>
          clear hwl hrow hbx
          obtain ⟨i, L, rs, hi, rfl, rfl, hrs0, hrs1, hwl, hrow, hbx, hrel⟩ := hrel
          rcases i with _ | i
          · have he := short_end og hrs0 hrs1 hrel.out.2.2.2
            rw [zas] at he
            have hcap : L.length ≤ cR := by have := hrel.out.1; omega
            have hr : IsL .u32 wr (G + 1) wr.heap.size (.slice AR L.length cR) L := hwl.isL hcap hcR2
            rw [hrel.out.1] at hr
            have hq : IsL .u32 wr G (G + 1) (.slice (some ⟨G, 0, none⟩) (m - n + 1) (m - n + 1)) Lq := by
              have := hrow.sv
              exact ⟨_, _, by rw [HRel.out.1], by rw [HRel.out.1]; exact Nat.le_refl _, by unfold maxLen; omega, this⟩
            have Hr := Lib.hid hr
            have Hq := Lib.hid hq
            have hG9 := hrow.lt
            have He := Lib.hid he
            have HloL := Lib.hid hrel.out.2.1
            have hde := div_end (a := x) (b := y) (q := val Lq) (u := R) (f := F.toNat) og (by rw [← HY.out]; exact HRel.out.2.2.1) (by
              have := HRel.out.2.2.2.1
              rw [List.drop_zero, List.drop_zero, zas] at this
              rw [← HX.out, ← HY.out, this]
              omega)
            have Hde := Lib.hid hde
            clear hde he hr hq hrow hwl hrel
            go_wp2_with fail
            refine (rtrim_l Hq.out HRel.out.2.1).mono ?_
            rintro e w2 ⟨⟨vq, rfl, hvq⟩, rfl⟩
            go_wp2_with fail
            refine (rtrim_l Hr.out HloL.out).mono ?_
            rintro e w2 ⟨⟨vr, rfl, hvr⟩, rfl⟩
            go_wp2_with fail
            go_ret2
            refine ⟨⟨vq, vr, rfl, ?_, ?_⟩, Hbw3.out.trans (hbx.mono Hbw3.out.size)⟩
            · rw [← Hde.out.1]
              exact hvq.wide (by have := Hbw3.out.size; omega) hG9
            · rw [← Hde.out.2, ← He.out.1]
              exact hvr.wide (Nat.zero_le _) (Nat.le_refl _)
          · have hk1 : ((i + 1 : Nat) : Int) - 1 = (i : Int) := og
            rw [hk1]
            clear hk1
            obtain ⟨g, sp, rfl, hgb, hgr⟩ := hwl (by rintro rfl; simp at hi)
            obtain ⟨z, hz, hz0, hzc⟩ := hgr.numS (i := i) og
            have hz9 : z ≤ 999999999 := by have := zcj hrel.out.2.1 i; have := hz.out; omega
            have hzf := hgr.frozen i
            have hq := short_bounds hrs0 hrs1 hz0 hz9
            have hq0 := hq.1
            have hq1 := hq.2.1
            have hq2 := hq.2.2.1
            have hq3 := hq.2.2.2
            clear hq
            have hfcx : wr.cell? ⟨fb, fo, none⟩ = some (.int .u32 F) := (hbx.cell (p := ⟨fb, fo, none⟩) Hfc.out.1).trans Hfc.out.2
            have hilen : i < (lim R).length := by have := hrel.out.1; omega
            have hFne : (F == 0) = false := beq_eq_false_iff_ne.2 og
            have hfcy : (wr.setCell ⟨g, i, none⟩ (.int .u32 ((rs * 1000000000 + z) / F))).cell? ⟨fb, fo, none⟩ = some (.int .u32 F) := by
              rw [World.cell?_setCell_other _ _ _ _ (by have := Hfc.out.1; simp only [ne_eq, Addr.mk.injEq, not_and]; omega)]; exact hfcx
            go_wp2
            go_roundw
            case rel =>
              refine ⟨i, L.set i ((rs * 1000000000 + z) / F).toNat, (rs * 1000000000 + z) % F, by rw [List.length_set]; omega, rfl, rfl, hq2, hq3, fun _ => ⟨g, sp, rfl, hgb, hgr.setS i _ og _ og⟩, hrow.far (by simp only; omega) _, hbx.setCell (by simp only; omega) _, ?_⟩
              have hzR : z = ((lim R).getD i 0 : Nat) := by rw [← hrel.out.2.2.1 i (Nat.lt_succ_self _)]; exact hz.out
              refine ⟨by rw [List.length_set]; exact hrel.out.1, zbb hrel.out.2.1 og, fun j hj => ?_, short_step hilen hrel.out.1 hzR hq0 hrel.out.2.2.2⟩
              rw [getD_set_ne og]
              exact hrel.out.2.2.1 j og
            case measure => simp [intOf]
      · have hk1 : ((k + 1 : Nat) : Int) - 1 = (k : Int) := og
        rw [hk1]
        clear hk1
        have hAk := (HAs.out.below hbx (Nat.le_refl _))
        obtain ⟨ba, oa, hA2e, _, hbal, hca⟩ := hAk (zap (j := k) (by rw [Hm.out]; omega))
        subst hA2e
        obtain ⟨ak, hak, hak0, hak1, hakc⟩ := zaw (j := k) (zat X) hca (by rw [Hm.out]; omega)
        have HN := Lib.hid hN
        have hRn : Hid ((lim R).length ≤ n) := by rw [← Hn.out]; exact zah (Nat.le_of_lt hrel.out.2.2.1)
        obtain ⟨AR, cR, rfl, hcR, hcRm, hRs⟩ := hN
        have HRs := Lib.hid hRs
        have hRn' := hRn.out
        clear hca hAk hRs
        go_wp2_with (at_builtin; refine zex elN rfl _ _ rfl rfl (own_lit1 wr ak ak.toNat og) rfl (zal _ _) (HRs.out.alloc hhi _) (cel_one _ _) (by simp only [zal, List.length_cons, List.length_nil]; omega) (by simp) ?_; intro v1 w4 hown4 hb4 hz4)
        have hIL : IsL .u32 w4 wr.heap.size w4.heap.size v1 (ak.toNat :: lim R) := by
          have := hown4
          rw [← cel_append] at this
          exact Own.isL this
        have hloL : Lo (ak.toNat :: lim R) := lo_cons.2 ⟨by omega, zat R⟩
        have hbw4 : Below wr.heap.size wr w4 := ((Below.refl _ wr).alloc (Nat.le_refl _) _).trans hb4
        have HIL := Lib.hid hIL
        have HloL := Lib.hid hloL
        clear hown4 hb4 hz4 hIL hloL HN HRs
        refine (rtrim_l HIL.out HloL.out).mono ?_
        rw [cons_val]
        have hR'lt := cons_lt (a := ak.toNat) (R := R) (B := Y) og hrel.out.2.2.1
        have hRe : Hid ((lim X).getD k 0 + 1000000000 * R = ak.toNat + 1000000000 * R) := by have := hak.out; unfold Hid; omega
        generalize ak.toNat + 1000000000 * R = R' at *
        have hlead := lead_lt (R := R') (B := Y) (n := n - 1) (by rw [Hn.out]; omega) hR'lt
        have hRl : (lim R').length ≤ n + 1 := by have := hlead.1; omega
        have hRq := Lib.hid hlead.2
        have HR' := Lib.hid hR'lt
        clear hlead hR'lt HIL HloL
        rintro e w5 ⟨⟨v5, rfl, hv5⟩, rfl⟩
        have Hv5 := Lib.hid hv5
        obtain ⟨A5, c5, rfl, _, _, h5s⟩ := hv5
        have HRel := Lib.hid (hrel.out)
        clear hrel
        go_wp2_with fail
        go_loop [10, 11] (fun s10 s11 => ∃ (j q : Nat), j ≤ (lim R').length ∧ s10 = .int .u64 (q : Int) ∧ s11 = .int .i64 ((j : Int) - 1) ∧ (n - 1 ≤ j ∨ j = (lim R').length) ∧ Hid (q = val ((lim R').drop j))) (fun _ s11 => (intOf s11 + 1).toNat)
        case atStart => exact ⟨(lim R').length, 0, Nat.le_refl _, rfl, rfl, .inr rfl, by rw [Hid, List.drop_length]; rfl⟩
        case round =>
          obtain ⟨j, q, hj, rfl, rfl, hjn, hq⟩ := hrel
          rcases Nat.lt_or_ge (n - 1) j with hjl | hjg
          · rcases j with _ | j
            · omega
            · have hk1 : ((j + 1 : Nat) : Int) - 1 = (j : Int) := og
              rw [hk1]
              clear hk1
              obtain ⟨b5, o5, rfl, _, _, hc5⟩ := h5s (zap (j := j) hj)
              obtain ⟨z, hz, hz0, hz1, hzc⟩ := zaw (j := j) (zat R') hc5 og
              clear hc5
              have hq9 : q ≤ 999999999 := by
                have h1 := drop_lt (zat R') (k := j + 1) (n := 1) og
                rw [pw_one, ← hq.out] at h1
                omega
              go_wp2
              go_round
              case rel =>
                refine ⟨j, q * 1000000000 + z.toNat, by omega, by go_num, by go_num, .inl og, ?_⟩
                have h1 := zda (l := lim R') (k := j) og
                have := hq.out
                have := hz.out
                unfold Hid
                omega
              case measure => simp [intOf]
          · have hqe : Hid (q = R' / pw (n - 1)) := lead_at hq.out og
            have hq18 : q < 1000000000000000000 := by rw [hqe.out]; exact hRq.out
            have hqT0 : 0 ≤ (q : Int) / T := Int.ediv_nonneg og og
            have hTne : (T == 0) = false := beq_eq_false_iff_ne.2 og
            have hg : Hid (∀ d : Nat, (d = 999999999 ∨ (d : Int) = (q : Int) / T) → R' < (d + 1) * Y) := by
              intro d hd
              refine guess_ge (n := n - 1) (by rw [Hn.out]; omega) HR'.out ?_
              rcases hd with hd | hd
              · exact .inl hd
              · right
                rw [← hqe.out]
                have := hT.out
                rw [this] at hd
                exact_mod_cast hd
            have hnj : ¬ n ≤ j := og
            have hnj2 : (n : Int) - 1 > (j : Int) - 1 := og
            have hqT1 : (q : Int) / T < 1000000000000000000 := Int.ediv_lt_of_lt_mul og (by have := Int.mul_le_mul_of_nonneg_left (a := 1) (b := T) (c := 1000000000000000000) og og; omega)
            have hu64 : IntKind.u64.wrap ((q : Int) / T) = (q : Int) / T := IntWalk.u64_in _ og
            have hst : Hid (∃ d0 : Nat, d0 ≤ 999999999 ∧ R' < (d0 + 1) * Y ∧ ((q : Int) / T ≤ 999999999 → (q : Int) / T = d0) ∧ (999999999 < (q : Int) / T → d0 = 999999999)) := by
              by_cases hmin : (q : Int) / T ≤ 999999999
              · obtain ⟨d0, hd0⟩ := Int.eq_ofNat_of_zero_le hqT0
                exact ⟨d0, by omega, hg.out d0 (.inr hd0.symm), fun _ => hd0, fun h => by omega⟩
              · exact ⟨999999999, Nat.le_refl _, hg.out _ (.inl rfl), fun h => absurd h hmin, fun _ => rfl⟩
            have Hbw4 := Lib.hid (hbx.trans (hbw4.mono hbx.size))
            clear hg hRq hqe hjn
            by_cases hmin : (q : Int) / T ≤ 999999999
            all_goals
              go_wp2
              go_loopw [12] (fun s12 wi => ∃ d : Nat, s12 = .int .u64 (d : Int) ∧ d ≤ 999999999 ∧ Below w4.heap.size w4 wi ∧ Hid (R' < (d + 1) * Y)) (fun s12 _ => (intOf s12).toNat)
              case atStart =>
                obtain ⟨d0, h1, h2, h3, h4⟩ := hst.out
                first
                  | exact ⟨d0, by rw [h3 hmin], h1, Below.refl _ _, h2⟩
                  | exact ⟨d0, by rw [h4 og]; rfl, h1, Below.refl _ _, h2⟩
              case round =>
                clear hst
                obtain ⟨d, rfl, hd9, hbi, hdY⟩ := hrel
                have hu32 : IntKind.u32.wrap (d : Int) = (d : Int) := IntWalk.u32_in _ og
                have HB4 := Lib.hid (HB3.out.upB (Hbw4.out.trans (hbi.mono (Hbw4.out.size))))
                have Hv6 := Lib.hid (Hv5.out.upB hbi)
                go_wp2_with fail
                refine (small_n wr (d : Int) og og).mono ?_
                rintro e w6 ⟨⟨vs, rfl, hs⟩, hb6⟩
                rw [Int.toNat_natCast] at hs
                have Hs6 := Lib.hid hs
                clear hs
                go_wp2_with fail
                refine (zcq (HB4.out.upB hb6) Hs6.out (Nat.le_refl _) (Nat.le_refl _) (by rw [Hn.out]; omega) (by have := lim_len_le (n := d) (k := 1); rw [pw_one] at this; omega)).mono ?_
                rintro e w7 ⟨⟨vp, rfl, hp⟩, hb7⟩
                have Hp7 := Lib.hid (hp.wide (lo' := 0) (Nat.zero_le _) (Nat.le_refl _))
                have hbi7 := below_trans' hbi (below_trans' hb6 hb7)
                clear hp Hs6
                go_wp2_with fail
                refine (zfi Hp7.out (Hv5.out.upB hbi7)).mono ?_
                rintro e w8 ⟨rfl, q8, rfl⟩
                rcases Nat.lt_or_ge R' (Y * d) with hgt | hle
                · rw [zfj hgt]
                  clear Hp7
                  have hdd := digit_down hgt
                  have hd1 := hdd.1
                  have Hdd := Lib.hid hdd.2
                  clear hdd hgt
                  have hu64d : IntKind.u64.wrap ((d : Int) - 1) = (d : Int) - 1 := IntWalk.u64_in _ og
                  go_wp2_with fail
                  go_roundw
                  case rel =>
                    exact ⟨d - 1, by go_num, by omega, below_drewN hbi7 _, Hdd.out⟩
                  case measure => simp [intOf]; omega
                · have hsl : sgn (Y * d) R' ≤ 0 := by unfold sgn; split <;> (try split) <;> omega
                  generalize sgn (Y * d) R' = sg8 at *
                  have hbi8 := below_drewN hbi7 q8
                  have HB8 := Lib.hid (HB3.out.upB (Hbw4.out.trans (hbi8.mono (Hbw4.out.size))))
                  have Hle := Lib.hid hle
                  clear Hp7 hbi hbi7 hb6 hb7 HB4 Hv6 hle
                  go_wp2_with fail
                  refine (small_n (w7.drewN q8) (d : Int) og og).mono ?_
                  rintro e w9 ⟨⟨vs2, rfl, hs⟩, hb9⟩
                  rw [Int.toNat_natCast] at hs
                  have Hs9 := Lib.hid hs
                  clear hs
                  go_wp2_with fail
                  refine (zcq (HB8.out.upB hb9) Hs9.out (Nat.le_refl _) (Nat.le_refl _) (by rw [Hn.out]; omega) (by have := lim_len_le (n := d) (k := 1); rw [pw_one] at this; omega)).mono ?_
                  rintro e wa ⟨⟨vp2, rfl, hp⟩, hba⟩
                  have Hpa := Lib.hid (hp.wide (lo' := 0) (Nat.zero_le _) (Nat.le_refl _))
                  have hbia := below_trans' hbi8 (below_trans' hb9 hba)
                  clear hp Hs9
                  go_wp2_with fail
                  refine (rminus_w (Hv5.out.upB hbia) Hpa.out (Nat.le_refl _) (Nat.le_refl _) Hle.out og).mono ?_
                  rintro e wb ⟨⟨vr, rfl, hwr⟩, hbb⟩
                  have Hwr := Lib.hid hwr
                  have hbib := below_trans' hbia hbb
                  have hrb : Row wb G 160 (cel .u32 Lq) := ((hbw4.trans (hbib.mono hbw4.size)).block G hrow.lt).trans hrow
                  obtain ⟨z, hz, hz0, hzc⟩ := hrb.num (i := k) (by rw [HRel.out.1]; omega)
                  have hzf := hrb.frozen k
                  have hGa : G < wa.heap.size := Nat.lt_of_lt_of_le hrow.lt (Nat.le_trans hbw4.size hbia.size)
                  have hb3b := Hbw4.out.trans (hbib.mono Hbw4.out.size)
                  clear hwr hbb hbib hbia Hpa HB8 hb9 hba hbi8
                  go_wp2_with fail
                  go_roundw
                  case rel =>
                    have hd := digit_exact (R := R') (B := Y) (d := d) (by rw [Nat.mul_comm]; exact Hle.out) hdY.out
                    have hw := Hwr.out.setFar (p := ⟨G, k, none⟩) hGa (.int .u32 (d : Int))
                    refine ⟨k, Lq.set k d, R' - Y * d, wa.heap.size, _, by omega, by go_num, hrb.setNum k d _ rfl, hw.isN, .inl hGa, Nat.le_trans hG3 (Nat.le_of_lt hGa), Nat.le_refl _, hb3b.setCell hG3 _, ?_⟩
                    refine ⟨by rw [List.length_set]; exact HRel.out.1, zbb HRel.out.2.1 og, by rw [Nat.mul_comm]; exact hd.1, ?_, fun _ => hw.mono hGa⟩
                    rw [Nat.mul_comm Y d]
                    exact over_step (by rw [Hm.out]; omega) (by rw [HRel.out.1]; omega) HRel.out.2.2.2.1 hRe.out (by rw [Nat.mul_comm]; exact Hle.out)
                  case measure => simp [intOf]
theorem rover_f {w : World} {va vb : Value} {x y : Nat} (ha : IsN w 0 w.heap.size va x) (hb : IsN w 0 w.heap.size vb y) (hy0 : 0 < y) (hx9 : (lim x).length ≤ 2000000000) :
    Calls Tryz.prog 174 #[va, vb] w fun e w' => (∃ q r, e = .returned (.tuple #[q, r]) ∧ IsN w' w.heap.size w'.heap.size q (x / y) ∧ IsN w' 0 w'.heap.size r (x % y)) ∧ Below w.heap.size w w' := by
  rcases Nat.lt_or_ge x y with h | h
  · exact rover_smallF ha hb h
  · exact rover_longF ha hb h hy0 hx9
theorem rover_n {w : World} {va vb : Value} {x y : Nat} (ha : IsN w 0 w.heap.size va x) (hb : IsN w 0 w.heap.size vb y) (hy0 : 0 < y) (hx9 : (lim x).length ≤ 2000000000) :
    Calls Tryz.prog 174 #[va, vb] w fun e w' => (∃ q r, e = .returned (.tuple #[q, r]) ∧ IsN w' 0 w'.heap.size q (x / y) ∧ IsN w' 0 w'.heap.size r (x % y)) ∧ Below w.heap.size w w' :=
  (rover_f ha hb hy0 hx9).mono fun e w' ⟨⟨q, r, he, hq, hr⟩, hw⟩ => ⟨⟨q, r, he, hq.wide (Nat.zero_le _) (Nat.le_refl _), hr⟩, hw⟩
theorem lim_pos1 {Y : Nat} (h : 0 < Y) : 1 ≤ (lim Y).length := by
  have := lim_nil_iff (n := Y)
  omega
set_option maxHeartbeats 400000 in
theorem rcommon_n {w : World} {va vb : Value} {x y : Nat} (ha : IsN w 0 w.heap.size va x) (hb : IsN w 0 w.heap.size vb y) (hx : (lim x).length ≤ 2000000000) (hy : (lim y).length ≤ 2000000000) :
    Calls Tryz.prog 152 #[va, vb] w fun e w' => (∃ v, e = .returned v ∧ IsN w' 0 w'.heap.size v (Nat.gcd x y)) ∧ Below w.heap.size w w' := by
  have Ha := Lib.hid ha
  have Hb := Lib.hid hb
  obtain ⟨A, c, rfl, _, _, _⟩ := ha
  obtain ⟨B, d, rfl, _, _, _⟩ := hb
  go_enter Tryz.func152, Tryz.ntmps152
  go_wp2_with fail
  go_loopw [0, 1] (fun v0 v1 wr => ∃ X Y : Nat, IsN wr 0 wr.heap.size v0 X ∧ IsN wr 0 wr.heap.size v1 Y ∧ Below w.heap.size w wr ∧ Hid (Nat.gcd X Y = Nat.gcd x y ∧ (lim X).length ≤ 2000000000 ∧ (lim Y).length ≤ 2000000000)) (fun _ v1 wr => numOf wr v1)
  case atStart => exact ⟨x, y, Ha.out, Hb.out, Below.refl _ _, rfl, hx, hy⟩
  case round =>
    obtain ⟨X, Y, hX, hY, hbw, hrel⟩ := hrel
    have HX := Lib.hid hX
    have HY := Lib.hid hY
    obtain ⟨A1, c1, rfl, _, _, _⟩ := hX
    obtain ⟨B1, d1, rfl, _, _, _⟩ := hY
    rcases Nat.eq_zero_or_pos Y with h0 | h0
    · have hl0 : (lim Y).length = 0 := by rw [h0, lim_zero]; rfl
      have Hg : Hid (X = Nat.gcd x y) := by
        have := hrel.out.1
        rw [h0, Nat.gcd_zero_right] at this
        exact this
      clear hrel h0
      go_wp2_with fail
      go_ret
      refine ⟨⟨_, rfl, ?_⟩, hbw⟩
      rw [← Hg.out]
      exact HX.out
    · have hl0 := lim_pos1 h0
      have H0 := Lib.hid h0
      clear h0
      go_wp2_with fail
      refine (rover_n HX.out HY.out H0.out hrel.out.2.1).mono ?_
      rintro e w1 ⟨⟨q, r, rfl, _, hr⟩, hb1⟩
      have Hr := Lib.hid hr
      have HY1 := Lib.hid (HY.out.up hb1)
      clear hr
      go_wp2_with fail
      go_roundw
      case rel =>
        refine ⟨Y, X % Y, HY1.out, Hr.out, zcf hbw hb1, ?_, hrel.out.2.2, Nat.le_trans (zah (Nat.le_of_lt (Nat.mod_lt _ H0.out))) hrel.out.2.2⟩
        rw [← hrel.out.1, Nat.gcd_comm X Y, Nat.gcd_rec Y X, Nat.gcd_comm]
      case measure =>
        show numOf w1 r < numOf wr (.slice B1 (lim Y).length d1)
        rw [zek Hr.out, zek HY.out]
        exact Nat.mod_lt _ H0.out
end Go.Proofs.YtijjjbgnpfjpmaaGreatDoor
