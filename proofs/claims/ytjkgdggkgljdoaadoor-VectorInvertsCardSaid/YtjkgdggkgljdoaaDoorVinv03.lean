/-
  The contracts of package long's small functions: Cmp, trim, IsOne, One, Copy, Of.
-/
import Derived.Test.YtjkgdggkgljdoaaDoorProg
import Derived.Test.YtjkgdggkgljdoaaDoorVinv01
import Derived.Test.YtjkgdggkgljdoaaDoorVinv02
namespace Go.Proofs.YtjkgdggkgljdoaaDoor
open Go.RowKit
set_option linter.unusedVariables false
theorem u32_info : (Tryd.prog.info? 94).map (fun i => (i.zero, i.size, i.bytes)) = some (some (.int .u32 0), 1, 4) := by kernel_rfl
theorem elN : ElT Tryd.prog 48 94 (.int .u32 0) 4 := ⟨Tryd.underlying48, info_parts u32_info, rfl⟩
set_option maxHeartbeats 400000 in
theorem cmp_list (A B : Option Addr) (c d : Nat) (a b : List Nat) (w : World) (lo hi lo' hi' : Nat) (ha : Lo a) (hb : Lo b) (hal : a.length ≤ maxLen) (hbl : b.length ≤ maxLen) (hA : SV w lo hi A (cel .u32 a)) (hB : SV w lo' hi' B (cel .u32 b))
    (r : Int) (hr1 : a.length < b.length → r = -1) (hr2 : b.length < a.length → r = 1) (hr3 : a.length = b.length → r = sgn (val a) (val b)) :
    Calls Tryd.prog 96 #[.slice A a.length c, .slice B b.length d] w fun e w' => e = .returned (.int .i64 r) ∧ Dr w w' := by
  unfold maxLen at hal hbl
  have Ha := Lib.hid ha; clear ha
  have Hb := Lib.hid hb; clear hb
  have Hr3 := Lib.hid hr3; clear hr3
  rcases Nat.lt_trichotomy a.length b.length with h | h | h
  · have Hr := Lib.hid (hr1 h); clear hr1 hr2
    go_enter Tryd.func96, Tryd.ntmps96
    go_wp2
    go_ret
    exact ⟨zbb Hr.out.symm, Dr.refl w⟩
  · have Hr := Lib.hid (Hr3.out h); clear hr1 hr2 Hr3
    have hne : (((a.length : Int)) != (b.length : Int)) = false := by simp [h]
    have H := Lib.hid h
    have h1 : a.length ≤ b.length := by omega
    have h2 : b.length ≤ a.length := by omega
    clear h
    go_enter Tryd.func96, Tryd.ntmps96
    go_wp2
    go_loopw [5] (fun i wr => ∃ k : Nat, k ≤ a.length ∧ i = .int .i64 ((k : Int) - 1) ∧ Dr w wr ∧ Hid (a.drop k = b.drop k)) (fun i _ => (intOf i + 1).toNat)
    case atStart => exact ⟨a.length, Nat.le_refl _, rfl, Dr.refl w, by rw [List.drop_length, H.out, List.drop_length]; rfl⟩
    case round =>
      obtain ⟨k, hk, rfl, ⟨n, rfl⟩, hd⟩ := hrel
      rcases k with _ | k
      · go_wp2
        go_ret
        refine ⟨zbb ?_, (Dr.refl w).drewN n⟩
        have := hd.out
        simp only [List.drop_zero] at this
        rw [Hr.out, sgn_eq (by rw [this])]
      · obtain ⟨ba, oa, rfl, _, _, hca⟩ := hA (zbm hk)
        obtain ⟨bb, ob, rfl, _, _, hcb⟩ := hB (zbm (Nat.le_trans hk h1))
        obtain ⟨x, hx, hx0, hxc⟩ := zen (j := k) hca (by omega)
        obtain ⟨y, hy, hy0, hyc⟩ := zen (j := k) hcb (by omega)
        clear hca hcb
        rw [show (((k + 1 : Nat) : Int) - 1) = (k : Int) from by omega]
        go_wp2
        go_quiet (fail)
        go_wp2
        · go_ret
          refine ⟨zbb ?_, ((Dr.refl w).drewN n).drewN _⟩
          have hlt : x < y := by assumption
          rw [Hr.out, sgn_lt (val_lt_at Ha.out Hb.out H.out (by omega) hd.out (by have := hx.out; have := hy.out; omega))]
        · go_quiet (fail)
          go_wp2
          · go_ret
            refine ⟨zbb ?_, (((Dr.refl w).drewN n).drewN _).drewN _⟩
            have hlt : y < x := by assumption
            rw [Hr.out, sgn_gt (val_lt_at Hb.out Ha.out H.out.symm (by omega) hd.out.symm (by have := hx.out; have := hy.out; omega))]
          · go_roundw
            case rel =>
              have g1 : y ≤ x := by assumption
              have g2 : x ≤ y := by assumption
              exact ⟨k, by omega, rfl, ⟨_, rfl⟩, Lib.hid (drop_step H.out (by omega) hd.out (by have := hx.out; have := hy.out; omega))⟩
            case measure => simp [intOf]
  · have Hr := Lib.hid (hr2 h); clear hr1 hr2
    go_enter Tryd.func96, Tryd.ntmps96
    go_wp2
    go_ret
    exact ⟨zbb Hr.out.symm, Dr.refl w⟩
theorem cmp_n {w : World} {va vb : Value} {x y lo hi lo' hi' : Nat} (ha : IsN w lo hi va x) (hb : IsN w lo' hi' vb y) :
    Calls Tryd.prog 96 #[va, vb] w fun e w' => e = .returned (.int .i64 (sgn x y)) ∧ Dr w w' := by
  have h1 := ha.length_le
  have h2 := hb.length_le
  obtain ⟨A, c, rfl, _, _, hA⟩ := ha
  obtain ⟨B, d, rfl, _, _, hB⟩ := hb
  refine cmp_list A B c d (lim x) (lim y) w _ _ _ _ (zbh x) (zbh y) h1 h2 hA hB _ ?_ ?_ ?_
  · intro h; exact sgn_lt (zer h)
  · intro h; exact sgn_gt (zer h)
  · intro _; rw [zbf, zbf]
theorem trim_isN {w : World} {lo hi c m : Nat} {A : Option Addr} {l : List Nat} (hl : Lo l) (hll : l.length ≤ c) (hlc : c ≤ maxLen) (hm : m ≤ l.length) (hz : ∀ j, m ≤ j → j < l.length → l.getD j 0 = 0)
    (hlast : m = 0 ∨ l.getD (m - 1) 0 ≠ 0) (hA : SV w lo hi A (cel .u32 l)) : IsN w lo hi (.slice A m c) (val l) := by
  have h := trim_to hl hm hz hlast
  refine ⟨A, c, ?_, ?_, hlc, ?_⟩
  · rw [h, List.length_take, Nat.min_eq_left hm]
  · rw [h, List.length_take]; omega
  · rw [h, cel_take]; exact hA.take m
set_option maxHeartbeats 400000 in
theorem trim_list (A : Option Addr) (c : Nat) (l : List Nat) (w : World) (lo hi : Nat) (hl : Lo l) (hll : l.length ≤ c) (hlc : c ≤ maxLen) (hA : SV w lo hi A (cel .u32 l)) :
    Calls Tryd.prog 126 #[.slice A l.length c] w fun e w' => (∃ v, e = .returned v ∧ IsN w lo hi v (val l)) ∧ w = w' := by
  have Hlc2 := Lib.hid hlc
  unfold maxLen at hlc
  have Hl := Lib.hid hl; clear hl
  go_enter Tryd.func126, Tryd.ntmps126
  go_wp2
  go_loop [0] (fun s => ∃ m : Nat, m ≤ l.length ∧ s = .slice A m c ∧ Hid (∀ j, m ≤ j → j < l.length → l.getD j 0 = 0)) (fun s => match s with | .slice _ m _ => m | _ => 0)
  case atStart => exact ⟨l.length, Nat.le_refl _, rfl, Lib.hid (by intro j h1 h2; omega)⟩
  case round =>
    obtain ⟨m, hm, rfl, hz⟩ := hrel
    rcases m with _ | m
    · go_wp2
      go_ret
      exact ⟨⟨_, rfl, trim_isN Hl.out hll Hlc2.out (Nat.zero_le _) hz.out (.inl rfl) hA⟩, rfl⟩
    · obtain ⟨ba, oa, rfl, _, _, hca⟩ := hA (zbm hm)
      obtain ⟨x, hx, hx0, hxc⟩ := zen (j := m) hca (by omega)
      clear hca
      by_cases h0 : x = 0
      · subst h0
        go_wp2
        go_round
        case rel => exact ⟨m, by omega, rfl, Lib.hid (by
          intro j h1 h2
          rcases Nat.eq_or_lt_of_le h1 with h3 | h3
          · subst h3; have := hx.out; omega
          · exact hz.out j h3 h2)⟩
        case measure => simp
      · have hb : (x == 0) = false := by simpa using h0
        go_wp2
        go_ret
        exact ⟨⟨_, rfl, trim_isN Hl.out hll Hlc2.out hm hz.out (.inr (by have := hx.out; simp only [Nat.add_sub_cancel]; omega)) hA⟩, rfl⟩
theorem trim_l {w : World} {va : Value} {l : List Nat} {lo hi : Nat} (ha : IsL .u32 w lo hi va l) (hl : Lo l) :
    Calls Tryd.prog 126 #[va] w fun e w' => (∃ v, e = .returned v ∧ IsN w lo hi v (val l)) ∧ w = w' := by
  obtain ⟨A, c, rfl, hc, hcm, hA⟩ := ha
  exact trim_list A c l w lo hi hl hc hcm hA
set_option maxHeartbeats 400000 in
theorem one_n (w : World) :
    Calls Tryd.prog 72 #[] w fun e w' => (∃ v, e = .returned v ∧ IsN w' w.heap.size w'.heap.size v 1) ∧ Below w.heap.size w w' := by
  go_enter Tryd.func72, Tryd.ntmps72
  go_wp2
  go_ret
  refine ⟨⟨_, rfl, ?_⟩, (Below.refl _ _).alloc (Nat.le_refl _) _⟩
  have h := isL_new .u32 w 94 [1] (by simp [maxLen])
  unfold IsN
  rw [zde, World.size_alloc]
  exact h
set_option maxHeartbeats 400000 in
theorem copy_n {w : World} {va : Value} {x lo hi : Nat} (ha : IsN w lo hi va x) (hx : (lim x).length ≤ 4294967296) :
    Calls Tryd.prog 107 #[va] w fun e w' => (∃ v, e = .returned v ∧ IsN w' w.heap.size w'.heap.size v x) ∧ Below w.heap.size w w' := by
  obtain ⟨A, c, rfl, hc, hcm, hA⟩ := ha
  go_enter Tryd.func107, Tryd.ntmps107
  go_wp2_with (at_builtin; refine wp_appN elN rfl _ _ rfl rfl (Own.nil _ _ _) rfl (zbo _ _) hA (cel_one _ _) (by simp only [List.length_nil]; omega) (Nat.le_refl _) ?_; intro v1 w1 hown hb hz)
  go_ret
  exact ⟨⟨_, rfl, Own.isL (by simpa using hown)⟩, hb⟩
theorem zbw (k : IntKind) (l : List Nat) (x : Nat) (y : Int) (h : y = (x : Int)) : cel k l ++ [.int k y] = cel k (l ++ [x]) := by subst h; simp [cel]
set_option maxHeartbeats 400000 in
theorem of_n (w : World) (n : Nat) (hn : n ≤ 18446744073709551615) :
    Calls Tryd.prog 132 #[.int .u64 (n : Int)] w fun e w' => (∃ v, e = .returned v ∧ IsN w' w.heap.size w'.heap.size v n) ∧ Below w.heap.size w w' := by
  generalize hB : w.heap.size = B
  have HB := Lib.hid hB; clear hB
  go_enter Tryd.func132, Tryd.ntmps132
  go_wp2
  go_loopw [0, 3] (fun x v wr => ∃ m : Nat, ∃ l : List Nat, x = .int .u64 (m : Int) ∧ m ≤ n ∧ Own wr B 94 v (cel .u32 l) ∧ Below B w wr ∧ l.length + (lim m).length ≤ 5 ∧ Hid (l ++ lim m = lim n)) (fun x _ _ => (intOf x).toNat)
  case atStart =>
    refine ⟨n, [], rfl, Nat.le_refl _, Own.nil _ _ _, Below.refl _ _, ?_, rfl⟩
    rw [List.length_nil, Nat.zero_add, lim_len_le]
    simp [pw]
    omega
  case round =>
    obtain ⟨m, l, rfl, hm, hown, hb, hlen, hl⟩ := hrel
    have hBw : B ≤ wr.heap.size := by have := hb.size; have := HB.out; omega
    by_cases h0 : m = 0
    · subst h0
      go_wp2
      go_ret
      have := hl.out
      rw [zbd, List.append_nil] at this
      subst this
      exact ⟨⟨_, rfl, Own.isL hown⟩, hb⟩
    · go_wp2_with (at_builtin; refine zco elN rfl _ _ rfl rfl hown rfl rfl (by rw [zbo]; omega) hBw ?_; intro v1 w1 hown1 hb1 hz1)
      go_roundw
      case rel =>
        rw [zbw .u32 l (m % 1000000000) _ (by omega)] at hown1
        have h1 := zeo h0
        refine ⟨m / 1000000000, l ++ [m % 1000000000], by go_num, by omega, hown1, hb.trans hb1, ?_, ?_⟩
        · rw [h1] at hlen; simp only [List.length_append, List.length_cons, List.length_nil] at hlen ⊢; omega
        · have := hl.out
          rw [h1] at this
          rw [← this, List.append_assoc]
          rfl
      case measure => simp [intOf]; omega
theorem of_i (w : World) (n : Int) (h0 : 0 ≤ n) (hn : n ≤ 18446744073709551615) :
    Calls Tryd.prog 132 #[.int .u64 n] w fun e w' => (∃ v, e = .returned v ∧ IsN w' w.heap.size w'.heap.size v n.toNat) ∧ Below w.heap.size w w' := by
  obtain ⟨m, rfl⟩ := Int.eq_ofNat_of_zero_le h0
  exact of_n w m (by omega)
theorem zcq (n : Nat) : Lo (List.replicate n 0) := by
  intro x hx
  rw [List.mem_replicate] at hx
  omega
set_option maxHeartbeats 400000 in
theorem sub_list (A B : Option Addr) (c d : Nat) (a b : List Nat) (w : World) (lo hi lo' hi' : Nat) (hi1 : hi ≤ w.heap.size) (hi2 : hi' ≤ w.heap.size) (ha : Lo a) (hb : Lo b) (hal : a.length ≤ 4294967296) (hba : b.length ≤ a.length) (hle : val b ≤ val a)
    (hA : SV w lo hi A (cel .u32 a)) (hB : SV w lo' hi' B (cel .u32 b)) :
    Calls Tryd.prog 139 #[.slice A a.length c, .slice B b.length d] w fun e w' => (∃ v, e = .returned v ∧ IsN w' w.heap.size w'.heap.size v (val a - val b)) ∧ Below w.heap.size w w' := by
  have Ha := Lib.hid ha; clear ha
  have Hb := Lib.hid hb; clear hb
  have Hle := Lib.hid hle; clear hle
  go_enter Tryd.func139, Tryd.ntmps139
  go_wp2_with (at_make; refine wp_make elN rfl _ _ rfl a.length rfl rfl rfl rfl (by omega) ?_; intro G w1 hG hrow hb1 hz1)
  go_loopw [6, 15] (fun bw i wr => ∃ k : Nat, ∃ L : List Nat, ∃ br : Int, k ≤ a.length ∧ i = .int .i64 (k : Int) ∧ bw = .int .i64 br ∧ 0 ≤ br ∧ br ≤ 1 ∧ Row wr G 94 (cel .u32 L) ∧ Below G w wr ∧ Hid (wr.heap.size = G + 1) ∧
      Hid (L.length = a.length ∧ Lo L ∧ (val (L.take k) : Int) = val (a.take k) - val (b.take k) + br * pw k)) (fun _ i _ => a.length - (intOf i).toNat)
  case atStart => exact ⟨0, _, 0, Nat.zero_le _, rfl, rfl, by omega, by omega, hrow, hb1, hz1, by simp, zcq _, by simp [val]⟩
  case round =>
    obtain ⟨k, L, br, hk, rfl, rfl, hbr0, hbr1, hr, hbw, hsz, hrel⟩ := hrel
    have hbw' : Below w.heap.size w wr := by have := hG.out; subst this; exact hbw
    rcases Nat.lt_or_ge k a.length with hlt | hge
    · obtain ⟨ba, oa, rfl, _, _, hca⟩ := (hA.below hbw' hi1) (zbm (j := k) hlt)
      obtain ⟨x, hx, hx0, hx1, hxc⟩ := zbl (j := k) Ha.out hca hlt
      clear hca
      obtain ⟨z, hz, hz0, hzc⟩ := hr.num (i := k) (by rw [hrel.out.1]; exact hlt)
      have hzf := hr.frozen k
      have hkL : Hid (k < L.length) := by rw [hrel.out.1]; exact hlt
      rcases Nat.lt_or_ge k b.length with hlb | hgb
      · obtain ⟨bb, ob, rfl, _, _, hcb⟩ := (hB.below hbw' hi2) (zbm (j := k) hlb)
        obtain ⟨y, hy, hy0, hy1, hyc⟩ := zbl (j := k) Hb.out hcb hlb
        clear hcb
        rcases Int.lt_or_le (x - br - y) 0 with hneg | hpos
        · go_wp2
          go_roundw
          case rel =>
            exact ⟨k + 1, L.set k (x - br - y + 1000000000).toNat, 1, by omega, by go_num, rfl, by omega, by omega, hr.setNum k _ _ (by omega), hbw.setCell (Nat.le_refl _) _, by have := hsz.out; simpa [Hid, World.setCell] using this,
              by rw [List.length_set]; exact hrel.out.1, zcc hrel.out.2.1 (by omega), sub_rel hkL.out hx.out hy.out (by omega) (by omega) hrel.out.2.2⟩
          case measure => simp [intOf]; omega
        · go_wp2
          go_roundw
          case rel =>
            exact ⟨k + 1, L.set k (x - br - y).toNat, 0, by omega, by go_num, rfl, by omega, by omega, hr.setNum k _ _ (by omega), hbw.setCell (Nat.le_refl _) _, by have := hsz.out; simpa [Hid, World.setCell] using this,
              by rw [List.length_set]; exact hrel.out.1, zcc hrel.out.2.1 (by omega), sub_rel hkL.out hx.out hy.out (by omega) (by omega) hrel.out.2.2⟩
          case measure => simp [intOf]; omega
      · rcases Int.lt_or_le (x - br) 0 with hneg | hpos
        · go_wp2
          go_roundw
          case rel =>
            exact ⟨k + 1, L.set k (x - br + 1000000000).toNat, 1, by omega, by go_num, rfl, by omega, by omega, hr.setNum k _ _ (by omega), hbw.setCell (Nat.le_refl _) _, by have := hsz.out; simpa [Hid, World.setCell] using this,
              by rw [List.length_set]; exact hrel.out.1, zcc hrel.out.2.1 (by omega), sub_rel (y := 0) hkL.out hx.out (by rw [zck hgb]; rfl) (by omega) (by omega) hrel.out.2.2⟩
          case measure => simp [intOf]; omega
        · go_wp2
          go_roundw
          case rel =>
            exact ⟨k + 1, L.set k (x - br).toNat, 0, by omega, by go_num, rfl, by omega, by omega, hr.setNum k _ _ (by omega), hbw.setCell (Nat.le_refl _) _, by have := hsz.out; simpa [Hid, World.setCell] using this,
              by rw [List.length_set]; exact hrel.out.1, zcc hrel.out.2.1 (by omega), sub_rel (y := 0) hkL.out hx.out (by rw [zck hgb]; rfl) (by omega) (by omega) hrel.out.2.2⟩
          case measure => simp [intOf]; omega
    · obtain rfl : k = a.length := by omega
      have hLl := hrel.out.1
      have hv := sub_end hLl rfl hba hrel.out.2.1 (by omega) Hle.out hrel.out.2.2
      have hlo := hrel.out.2.1
      have Hrel := hrel
      clear hrel
      have H1 : Hid (Row wr G 94 (cel .u32 L) ∧ val L = val a - val b ∧ L.length = a.length) := ⟨hr, hv, hLl⟩
      have H2 := Lib.hid hlo
      clear hv hlo hr hLl
      go_wp2_with fail
      rw [← H1.out.2.2]
      refine (trim_list _ _ L wr G (G + 1) H2.out (Nat.le_refl _) (by have := H1.out.2.2; unfold maxLen; omega) H1.out.1.sv).mono ?_
      rintro e w2 ⟨⟨v, rfl, hv⟩, rfl⟩
      go_wp2_with fail
      go_ret
      refine ⟨⟨_, rfl, ?_⟩, hbw'⟩
      rw [← H1.out.2.1]
      exact hv.wide (by have := hG.out; omega) (by have := hsz.out; omega)
theorem sub_n {w : World} {va vb : Value} {x y lo hi lo' hi' : Nat} (ha : IsN w lo hi va x) (hb : IsN w lo' hi' vb y) (hi1 : hi ≤ w.heap.size) (hi2 : hi' ≤ w.heap.size) (hle : y ≤ x) (hx : (lim x).length ≤ 4294967296) :
    Calls Tryd.prog 139 #[va, vb] w fun e w' => (∃ v, e = .returned v ∧ IsN w' w.heap.size w'.heap.size v (x - y)) ∧ Below w.heap.size w w' := by
  obtain ⟨A, c, rfl, _, _, hA⟩ := ha
  obtain ⟨B, d, rfl, _, _, hB⟩ := hb
  have h := sub_list A B c d (lim x) (lim y) w _ _ _ _ hi1 hi2 (zbh x) (zbh y) hx (zas hle) (by rw [zbf, zbf]; exact hle) hA hB
  rw [zbf, zbf] at h
  exact h
set_option maxHeartbeats 400000 in
theorem mul_list (A B : Option Addr) (c d : Nat) (a b : List Nat) (w : World) (lo hi lo' hi' : Nat) (hi1 : hi ≤ w.heap.size) (hi2 : hi' ≤ w.heap.size) (ha : Lo a) (hb : Lo b) (hal : a.length ≤ 4294967296) (hba : b.length ≤ 4294967296)
    (hA : SV w lo hi A (cel .u32 a)) (hB : SV w lo' hi' B (cel .u32 b)) :
    Calls Tryd.prog 97 #[.slice A a.length c, .slice B b.length d] w fun e w' => (∃ v, e = .returned v ∧ IsN w' w.heap.size w'.heap.size v (val a * val b)) ∧ Below w.heap.size w w' := by
  have Ha := Lib.hid ha; clear ha
  have Hb := Lib.hid hb; clear hb
  rcases Nat.eq_zero_or_pos a.length with ha0 | ha0
  · have e : a = [] := List.eq_nil_of_length_eq_zero ha0
    subst e
    go_enter Tryd.func97, Tryd.ntmps97
    go_wp2
    go_ret
    exact ⟨⟨_, rfl, by rw [val, Nat.zero_mul, IsN, zbd]; exact IsL.nil⟩, Below.refl _ _⟩
  have han : ((a.length : Int) == 0) = false := beq_eq_false_iff_ne.2 (by omega)
  rcases Nat.eq_zero_or_pos b.length with hb0 | hb0
  · have e : b = [] := List.eq_nil_of_length_eq_zero hb0
    subst e
    go_enter Tryd.func97, Tryd.ntmps97
    go_wp2
    go_ret
    exact ⟨⟨_, rfl, by rw [show val ([] : List Nat) = 0 from rfl, Nat.mul_zero, IsN, zbd]; exact IsL.nil⟩, Below.refl _ _⟩
  have hbn : ((b.length : Int) == 0) = false := beq_eq_false_iff_ne.2 (by omega)
  go_enter Tryd.func97, Tryd.ntmps97
  go_wp2_with (at_make; refine wp_make elN rfl _ _ rfl (a.length + b.length) rfl rfl rfl rfl (by omega) ?_; intro G w1 hG hrow hb1 hz1)
  go_loopw [29] (fun i wr => ∃ k : Nat, ∃ L : List Nat, k ≤ a.length ∧ i = .int .i64 (k : Int) ∧ Row wr G 94 (cel .u32 L) ∧ Below G w wr ∧ Hid (wr.heap.size = G + 1) ∧
      Hid (L.length = a.length + b.length ∧ Lo L ∧ (∀ j, k + b.length ≤ j → L.getD j 0 = 0) ∧ val L = val (a.take k) * val b)) (fun i _ => a.length - (intOf i).toNat)
  case atStart => exact ⟨0, _, Nat.zero_le _, rfl, hrow, hb1, hz1, by simp, zcq _, fun j _ => by rw [List.getD_eq_getElem?_getD, List.getElem?_replicate]; split <;> rfl, by rw [val_nil_take, Nat.zero_mul]; exact val_zeros (fun x hx => (List.mem_replicate.1 hx).2)⟩
  case round =>
    obtain ⟨k, L, hk, rfl, hr, hbw, hsz, hrel⟩ := hrel
    have hbw' : Below w.heap.size w wr := by have := hG.out; subst this; exact hbw
    rcases Nat.lt_or_ge k a.length with hlt | hge
    · obtain ⟨ba, oa, rfl, _, _, hca⟩ := (hA.below hbw' hi1) (zbm (j := k) hlt)
      obtain ⟨x, hx, hx0, hx1, hxc⟩ := zbl (j := k) Ha.out hca hlt
      clear hca
      have HR := hrel; clear hrel
      obtain ⟨wo, rfl⟩ : ∃ wo : World, wo = wr := ⟨_, rfl⟩
      go_wp2
      go_loopw [9, 39] (fun cr i wi => ∃ j : Nat, ∃ M : List Nat, ∃ cy : Int, j ≤ b.length ∧ i = .int .i64 (j : Int) ∧ cr = .int .u64 cy ∧ 0 ≤ cy ∧ cy ≤ 999999999 ∧ Row wi G 94 (cel .u32 M) ∧ Below G w wi ∧ Hid (wi.heap.size = G + 1) ∧
          Hid (M.length = a.length + b.length ∧ Lo M ∧ (∀ j, k + b.length ≤ j → M.getD j 0 = 0) ∧ (val M : Int) + cy * pw (k + j) = val L + x * pw k * val (b.take j))) (fun _ i _ => b.length - (intOf i).toNat)
      case atStart => exact ⟨0, L, 0, Nat.zero_le _, rfl, rfl, by omega, by omega, hr, hbw, hsz, HR.out.1, HR.out.2.1, HR.out.2.2.1, by simp [val]⟩
      case round =>
        clear hr hbw hbw' hsz hxc
        obtain ⟨j, M, cy, hj, rfl, rfl, hcy0, hcy1, hr, hbw, hsz, hrel⟩ := hrel
        have hbw' : Below w.heap.size w wr := by have := hG.out; subst this; exact hbw
        have hkM : Hid (k + b.length < M.length) := by rw [hrel.out.1]; unfold Hid; omega
        rcases Nat.lt_or_ge j b.length with hjl | hjg
        · obtain ⟨bb, ob, rfl, _, _, hcb⟩ := (hB.below hbw' hi2) (zbm (j := j) hjl)
          obtain ⟨y, hy, hy0, hy1, hyc⟩ := zbl (j := j) Hb.out hcb hjl
          clear hcb
          obtain ⟨z, hz, hz0, hz1, hzc⟩ := hr.lo hrel.out.2.1 (i := k + j) (by have := hkM.out; omega)
          have hzf := hr.frozen (k + j)
          have hxy := zce hx0 hx1 hy0 hy1
          have hxy0 := hxy.1
          have hxy1 := hxy.2
          clear hxy
          go_wp2
          go_roundw
          case rel =>
            exact ⟨j + 1, M.set (k + j) (x * y + z + cy - (x * y + z + cy) / 1000000000 * 1000000000).toNat, (x * y + z + cy) / 1000000000, by omega, by go_num, rfl, by omega, by omega, hr.setNum (k + j) _ _ (by omega), hbw.setCell (Nat.le_refl _) _,
              by have := hsz.out; simpa [Hid, World.setCell] using this, by rw [List.length_set]; exact hrel.out.1, zcc hrel.out.2.1 (by omega), fun i hi => by rw [zbq (by omega)]; exact hrel.out.2.2.1 i hi,
              mul_step (by have := hkM.out; omega) hy.out hz.out rfl rfl (by omega) hrel.out.2.2.2⟩
          case measure => simp [intOf]; omega
        · obtain rfl : j = b.length := by omega
          obtain ⟨z, hz, hz0, hzc⟩ := hr.num (i := k + b.length) hkM.out
          have hzf := hr.frozen (k + b.length)
          go_wp2
          go_roundw
          case rel =>
            exact ⟨k + 1, M.set (k + b.length) cy.toNat, by omega, by go_num, hr.setNum (k + b.length) _ _ (by omega), hbw.setCell (Nat.le_refl _) _,
              by have := hsz.out; simpa [Hid, World.setCell] using this, by rw [List.length_set]; exact hrel.out.1, zcc hrel.out.2.1 (by omega), fun i hi => by rw [zbq (by omega)]; exact hrel.out.2.2.1 i (by omega),
              mul_row rfl hkM.out hx.out (hrel.out.2.2.1 _ (Nat.le_refl _)) hcy0 HR.out.2.2.2 hrel.out.2.2.2⟩
          case measure => simp [intOf]; omega
    · obtain rfl : k = a.length := by omega
      have H1 : Hid (Row wr G 94 (cel .u32 L) ∧ val L = val a * val b ∧ L.length = a.length + b.length ∧ Lo L) := ⟨hr, by have := hrel.out.2.2.2; rw [zav (Nat.le_refl _)] at this; exact this, hrel.out.1, hrel.out.2.1⟩
      clear hr hrel
      go_wp2_with fail
      rw [← H1.out.2.2.1]
      refine (trim_list _ _ L wr G (G + 1) H1.out.2.2.2 (Nat.le_refl _) (by have := H1.out.2.2.1; unfold maxLen; omega) H1.out.1.sv).mono ?_
      rintro e w2 ⟨⟨v, rfl, hv⟩, rfl⟩
      go_wp2_with fail
      go_ret
      refine ⟨⟨_, rfl, ?_⟩, hbw'⟩
      rw [← H1.out.2.1]
      exact hv.wide (by have := hG.out; omega) (by have := hsz.out; omega)
theorem mul_n {w : World} {va vb : Value} {x y lo hi lo' hi' : Nat} (ha : IsN w lo hi va x) (hb : IsN w lo' hi' vb y) (hi1 : hi ≤ w.heap.size) (hi2 : hi' ≤ w.heap.size) (hx : (lim x).length ≤ 4294967296) (hy : (lim y).length ≤ 4294967296) :
    Calls Tryd.prog 97 #[va, vb] w fun e w' => (∃ v, e = .returned v ∧ IsN w' w.heap.size w'.heap.size v (x * y)) ∧ Below w.heap.size w w' := by
  obtain ⟨A, c, rfl, _, _, hA⟩ := ha
  obtain ⟨B, d, rfl, _, _, hB⟩ := hb
  have h := mul_list A B c d (lim x) (lim y) w _ _ _ _ hi1 hi2 (zbh x) (zbh y) hx hy hA hB
  rw [zbf, zbf] at h
  exact h
set_option maxHeartbeats 400000 in
theorem short_list (A : Option Addr) (c : Nat) (a : List Nat) (b : Int) (w : World) (lo hi : Nat) (hi1 : hi ≤ w.heap.size) (ha : Lo a) (hal : a.length ≤ 4294967296) (hb0 : 1 ≤ b) (hb1 : b ≤ 999999999)
    (hA : SV w lo hi A (cel .u32 a)) :
    Calls Tryd.prog 144 #[.slice A a.length c, .int .u32 b] w fun e w' => (∃ v, e = .returned (.tuple #[v, .int .u32 ((val a % b.toNat : Nat) : Int)]) ∧ IsN w' w.heap.size w'.heap.size v (val a / b.toNat)) ∧ Below w.heap.size w w' := by
  have Ha := Lib.hid ha; clear ha
  go_enter Tryd.func144, Tryd.ntmps144
  go_wp2_with (at_make; refine wp_make elN rfl _ _ rfl a.length rfl rfl rfl rfl (by omega) ?_; intro G w1 hG hrow hb1 hz1)
  go_loopw [7, 8] (fun rs i wr => ∃ k : Nat, ∃ L : List Nat, ∃ r : Int, k ≤ a.length ∧ i = .int .i64 ((k : Int) - 1) ∧ rs = .int .u64 r ∧ 0 ≤ r ∧ r ≤ b - 1 ∧ Row wr G 94 (cel .u32 L) ∧ Below G w wr ∧ Hid (wr.heap.size = G + 1) ∧
      Hid (L.length = a.length ∧ Lo L ∧ (val (a.drop k) : Int) = val (L.drop k) * b + r)) (fun _ i _ => (intOf i + 1).toNat)
  case atStart => exact ⟨a.length, _, 0, Nat.le_refl _, rfl, rfl, by omega, by omega, hrow, hb1, hz1, by simp, zcq _, by simp [val]⟩
  case round =>
    obtain ⟨k, L, r, hk, rfl, rfl, hr0, hr1, hr, hbw, hsz, hrel⟩ := hrel
    have hbw' : Below w.heap.size w wr := by have := hG.out; subst this; exact hbw
    rcases k with _ | k
    · have he := short_end (by omega) hr0 hr1 hrel.out.2.2
      have H1 : Hid (Row wr G 94 (cel .u32 L) ∧ L.length = a.length ∧ Lo L) := ⟨hr, hrel.out.1, hrel.out.2.1⟩
      have H2 := Lib.hid he
      clear hr hrel he
      go_wp2_with fail
      rw [← H1.out.2.1]
      refine (trim_list _ _ L wr G (G + 1) H1.out.2.2 (Nat.le_refl _) (by have := H1.out.2.1; unfold maxLen; omega) H1.out.1.sv).mono ?_
      rintro e w2 ⟨⟨v, rfl, hv⟩, rfl⟩
      go_wp2_with fail
      go_ret2
      refine ⟨⟨v, ?_, ?_⟩, hbw'⟩
      · rw [← H2.out.2, Int.toNat_of_nonneg hr0]; rfl
      · rw [← H2.out.1]
        exact hv.wide (by have := hG.out; omega) (by have := hsz.out; omega)
    · obtain ⟨ba, oa, rfl, _, _, hca⟩ := (hA.below hbw' hi1) (zbm (j := k) hk)
      obtain ⟨x, hx, hx0, hx1, hxc⟩ := zbl (j := k) Ha.out hca hk
      clear hca
      obtain ⟨z, hz, hz0, hzc⟩ := hr.num (i := k) (by rw [hrel.out.1]; exact hk)
      have hzf := hr.frozen k
      have hq := short_bounds hr0 hr1 hx0 hx1
      have hq0 := hq.1
      have hq1 := hq.2.1
      have hq2 := hq.2.2.1
      have hq3 := hq.2.2.2
      clear hq
      rw [show (((k + 1 : Nat) : Int) - 1) = (k : Int) from by omega]
      go_wp2
      go_roundw
      case rel =>
        exact ⟨k, L.set k ((r * 1000000000 + x) / b).toNat, (r * 1000000000 + x) % b, by omega, rfl, rfl, hq2, hq3, hr.setNum k _ _ (by omega), hbw.setCell (Nat.le_refl _) _, by have := hsz.out; simpa [Hid, World.setCell] using this,
          by rw [List.length_set]; exact hrel.out.1, zcc hrel.out.2.1 (by omega), short_step hk hrel.out.1 hx.out hq0 hrel.out.2.2⟩
      case measure => simp [intOf]
theorem short_n {w : World} {va : Value} {x lo hi : Nat} {b : Int} (ha : IsN w lo hi va x) (hi1 : hi ≤ w.heap.size) (hx : (lim x).length ≤ 4294967296) (hb0 : 1 ≤ b) (hb1 : b ≤ 999999999) :
    Calls Tryd.prog 144 #[va, .int .u32 b] w fun e w' => (∃ v r, e = .returned (.tuple #[v, .int .u32 r]) ∧ 0 ≤ r ∧ r ≤ 999999999 ∧ Hid (r.toNat = x % b.toNat) ∧ IsN w' w.heap.size w'.heap.size v (x / b.toNat)) ∧ Below w.heap.size w w' := by
  obtain ⟨A, c, rfl, _, _, hA⟩ := ha
  have h := short_list A c (lim x) b w _ _ hi1 (zbh x) hx hb0 hb1 hA
  rw [zbf] at h
  refine h.mono ?_
  rintro e w' ⟨⟨v, rfl, hv⟩, hb⟩
  exact ⟨⟨v, _, rfl, by omega, by have := Nat.mod_lt x (show 0 < b.toNat by omega); omega, rfl, hv⟩, hb⟩
set_option maxHeartbeats 400000 in
theorem times_list (A : Option Addr) (c : Nat) (a : List Nat) (x : Int) (n : Nat) (w : World) (lo hi : Nat) (hi1 : hi ≤ w.heap.size) (ha : Lo a) (hal : a.length ≤ n) (hn : n ≤ 8589934592) (hx0 : 0 ≤ x) (hx1 : x ≤ 999999999) (hfit : val a * x.toNat < pw n)
    (hA : SV w lo hi A (cel .u32 a)) :
    Calls Tryd.prog 145 #[.slice A a.length c, .int .u64 x, .int .i64 (n : Int)] w fun e w' => (∃ g L, e = .returned (.slice (some ⟨g, 0, none⟩) n n) ∧ w.heap.size ≤ g ∧ Row w' g 94 (cel .u32 L) ∧ L.length = n ∧ Lo L ∧ val L = val a * x.toNat) ∧ Below w.heap.size w w' := by
  have Ha := Lib.hid ha; clear ha
  have Hf := Lib.hid hfit; clear hfit
  go_enter Tryd.func145, Tryd.ntmps145
  go_wp2_with (at_make; refine wp_make elN rfl _ _ rfl n rfl rfl rfl rfl (by omega) ?_; intro G w1 hG hrow hb1 hz1)
  go_loopw [8, 14] (fun cr i wr => ∃ k : Nat, ∃ L : List Nat, ∃ cy : Int, k ≤ n ∧ i = .int .i64 (k : Int) ∧ cr = .int .u64 cy ∧ 0 ≤ cy ∧ cy ≤ 999999999 ∧ Row wr G 94 (cel .u32 L) ∧ Below G w wr ∧
      Hid (L.length = n ∧ Lo L ∧ (val (L.take k) : Int) + cy * pw k = val (a.take k) * x)) (fun _ i _ => n - (intOf i).toNat)
  case atStart => exact ⟨0, _, 0, Nat.zero_le _, rfl, rfl, by omega, by omega, hrow, hb1, by simp, zcq _, by simp [val]⟩
  case round =>
    obtain ⟨k, L, cy, hk, rfl, rfl, hc0, hc1, hr, hbw, hrel⟩ := hrel
    have hbw' : Below w.heap.size w wr := by have := hG.out; subst this; exact hbw
    rcases Nat.lt_or_ge k n with hlt | hge
    · obtain ⟨z, hz, hz0, hzc⟩ := hr.num (i := k) (by rw [hrel.out.1]; exact hlt)
      have hzf := hr.frozen k
      have hkL : Hid (k < L.length) := by rw [hrel.out.1]; exact hlt
      rcases Nat.lt_or_ge k a.length with hlk | hgk
      · obtain ⟨ba, oa, rfl, _, _, hca⟩ := (hA.below hbw' hi1) (zbm (j := k) hlk)
        obtain ⟨y, hy, hy0, hy1, hyc⟩ := zbl (j := k) Ha.out hca hlk
        clear hca
        have hxy := zce hy0 hy1 hx0 hx1
        have hxy0 := hxy.1
        have hxy1 := hxy.2
        clear hxy
        go_wp2
        go_roundw
        case rel =>
          exact ⟨k + 1, L.set k ((cy + y * x) % 1000000000).toNat, (cy + y * x) / 1000000000, by omega, by go_num, rfl, by omega, by omega, hr.setNum k _ _ (by omega), hbw.setCell (Nat.le_refl _) _,
            by rw [List.length_set]; exact hrel.out.1, zcc hrel.out.2.1 (by omega), times_step hkL.out hy.out (by omega) (by omega) hrel.out.2.2⟩
        case measure => simp [intOf]; omega
      · go_wp2
        go_roundw
        case rel =>
          exact ⟨k + 1, L.set k (cy % 1000000000).toNat, cy / 1000000000, by omega, by go_num, rfl, by omega, by omega, hr.setNum k _ _ (by omega), hbw.setCell (Nat.le_refl _) _,
            by rw [List.length_set]; exact hrel.out.1, zcc hrel.out.2.1 (by omega), times_step (y := 0) hkL.out (by rw [zck hgk]; rfl) (by omega) (by omega) hrel.out.2.2⟩
        case measure => simp [intOf]; omega
    · obtain rfl : k = n := by omega
      go_wp2
      go_ret
      refine ⟨⟨G, L, rfl, by have := hG.out; omega, hr, hrel.out.1, hrel.out.2.1, ?_⟩, hbw'⟩
      have h := hrel.out.2.2
      rw [zav (Nat.le_of_eq hrel.out.1), zav hal] at h
      obtain ⟨m, rfl⟩ := Int.eq_ofNat_of_zero_le hx0
      obtain ⟨y, rfl⟩ := Int.eq_ofNat_of_zero_le hc0
      have hf := Hf.out
      simp only [Int.toNat_natCast] at hf ⊢
      have h2 : val L + y * pw k = val a * m := by
        apply Int.ofNat_inj.1
        simpa using h
      rcases Nat.eq_zero_or_pos y with h0 | h0
      · subst h0; omega
      · have := Nat.mul_le_mul_right (pw k) h0
        omega
theorem times_n {w : World} {va : Value} {x lo hi : Nat} {F sz : Int} (ha : IsN w lo hi va x) (hi1 : hi ≤ w.heap.size) (n : Nat) (hsz : sz = (n : Int)) (hxn : (lim x).length ≤ n) (hn : n ≤ 8589934592) (hF0 : 0 ≤ F) (hF1 : F ≤ 999999999) (hfit : x * F.toNat < pw n) :
    Calls Tryd.prog 145 #[va, .int .u64 F, .int .i64 sz] w fun e w' => (∃ g L, e = .returned (.slice (some ⟨g, 0, none⟩) n n) ∧ w.heap.size ≤ g ∧ Row w' g 94 (cel .u32 L) ∧ L.length = n ∧ Lo L ∧ val L = x * F.toNat) ∧ Below w.heap.size w w' := by
  subst hsz
  obtain ⟨A, c, rfl, _, _, hA⟩ := ha
  have h := times_list A c (lim x) F n w _ _ hi1 (zbh x) hxn hn hF0 hF1 (by rw [zbf]; exact hfit) hA
  rw [zbf] at h
  exact h
end Go.Proofs.YtjkgdggkgljdoaaDoor
namespace Go.Proofs.YtjkgdggkgljdoaaDoor
theorem zcs {a b c : Int} (h : a ≤ b) (hc : 0 ≤ c) : a * c ≤ b * c := Int.mul_le_mul_of_nonneg_right h hc
theorem est_init {U V top v1 v2 u2 U' V' Q g : Int} (hQ : 0 < Q) (hV' : 0 ≤ V') (hU' : U' < Q) (hv2 : 0 ≤ v2) (hu2 : u2 ≤ 999999999) (hg0 : 0 ≤ g) (hg : top < (g + 1) * v1)
    (hU : U = (top * 1000000000 + u2) * Q + U') (hV : V = (v1 * 1000000000 + v2) * Q + V') : U < (g + 1) * V := by
  have h1 : U < (top * 1000000000 + u2 + 1) * Q := by rw [hU, Int.add_mul (top * 1000000000 + u2) 1 Q]; omega
  have h2 : top * 1000000000 + u2 + 1 ≤ ((g + 1) * v1) * 1000000000 := by omega
  have h3 := zcs h2 (Int.le_of_lt hQ)
  have h4 : (g + 1) * V = (g + 1) * v1 * 1000000000 * Q + (g + 1) * (v2 * Q + V') := by rw [hV]; grind
  have h5 : 0 ≤ (g + 1) * (v2 * Q + V') := Int.mul_nonneg (by omega) (Int.add_nonneg (Int.mul_nonneg hv2 (Int.le_of_lt hQ)) hV')
  omega
theorem est_base {U V g : Int} (hV : 0 ≤ V) (h : U < V * 1000000000) (hg : 1000000000 ≤ g) : U < g * V := by
  have := zcs hg hV
  have e : 1000000000 * V = V * 1000000000 := Int.mul_comm _ _
  omega
theorem est_second {U V top v1 v2 u2 U' V' Q g r : Int} (hQ : 0 < Q) (hV' : 0 ≤ V') (hU' : U' < Q) (hg0 : 0 ≤ g) (ht : g * v1 + r = top) (h : r * 1000000000 + u2 < g * v2)
    (hU : U = (top * 1000000000 + u2) * Q + U') (hV : V = (v1 * 1000000000 + v2) * Q + V') : U < g * V := by
  have h1 : U < (top * 1000000000 + u2 + 1) * Q := by rw [hU, Int.add_mul (top * 1000000000 + u2) 1 Q]; omega
  have h2 : top * 1000000000 + u2 + 1 ≤ g * v1 * 1000000000 + g * v2 := by omega
  have h3 := zcs h2 (Int.le_of_lt hQ)
  have h4 : g * V = (g * v1 * 1000000000 + g * v2) * Q + g * V' := by rw [hV]; grind
  have h5 : 0 ≤ g * V' := Int.mul_nonneg hg0 hV'
  omega
theorem est_rest {U V top v1 v2 u2 U' V' Q g r : Int} (hQ : 0 < Q) (hV' : V' < Q) (hU' : 0 ≤ U') (hv2 : v2 ≤ 999999999) (hu2 : 0 ≤ u2) (hv1 : 1 ≤ v1) (ht : g * v1 + r = top) (hr : 1000000000 ≤ r) (hlt : U < V * 1000000000)
    (hU : U = (top * 1000000000 + u2) * Q + U') (hV : V = (v1 * 1000000000 + v2) * Q + V') : g ≤ 999999999 := by
  have h1 : V < (v1 * 1000000000 + 1000000000) * Q := by
    have h := zcs (show v1 * 1000000000 + v2 + 1 ≤ v1 * 1000000000 + 1000000000 by omega) (Int.le_of_lt hQ)
    rw [Int.add_mul (v1 * 1000000000 + v2) 1 Q] at h
    omega
  have h2 : top * 1000000000 * Q ≤ U := by
    rw [hU, Int.add_mul]
    have := Int.mul_nonneg hu2 (Int.le_of_lt hQ)
    omega
  have h3 : top < v1 * 1000000000 + 1000000000 := by
    rcases Int.lt_or_le top (v1 * 1000000000 + 1000000000) with h | h
    · exact h
    · have h4 := zcs (zcs h (by omega : (0 : Int) ≤ 1000000000)) (Int.le_of_lt hQ)
      have e : (v1 * 1000000000 + 1000000000) * 1000000000 * Q = (v1 * 1000000000 + 1000000000) * Q * 1000000000 := by grind
      omega
  rcases Int.lt_or_le g 1000000000 with h | h
  · omega
  · have h5 := zcs h (by omega : 0 ≤ v1)
    omega
theorem est_exit {U V top v1 v2 u2 U' V' Q g r : Int} (hQ : 0 < Q) (hV' : V' < Q) (hV0 : 0 ≤ V') (hU' : 0 ≤ U') (hv2 : 0 ≤ v2) (hv2' : v2 ≤ 999999999) (hu2 : 0 ≤ u2) (hv1 : 1 ≤ v1) (hg0 : 0 ≤ g) (hg : g ≤ 999999999) (ht : g * v1 + r = top)
    (h : 1000000000 ≤ r ∨ g * v2 ≤ r * 1000000000 + u2) (hU : U = (top * 1000000000 + u2) * Q + U') (hV : V = (v1 * 1000000000 + v2) * Q + V') : g * V ≤ U + V := by
  have h1 : g * v1 * 1000000000 + g * v2 ≤ top * 1000000000 + u2 := by
    rcases h with h | h
    · have := (zce hg0 hg hv2 hv2').2
      omega
    · omega
  have h2 := zcs h1 (Int.le_of_lt hQ)
  have h4 : g * V = (g * v1 * 1000000000 + g * v2) * Q + g * V' := by rw [hV]; grind
  have h5 : g * V' ≤ 1000000000 * Q := by
    have a1 := zcs hg hV0
    have a2 := Int.mul_le_mul_of_nonneg_left (Int.le_of_lt hV') (by omega : (0 : Int) ≤ 999999999)
    omega
  have h6 : 1000000000 * Q ≤ V := by
    rw [hV]
    have a1 := zcs (show 1000000000 ≤ v1 * 1000000000 + v2 by omega) (Int.le_of_lt hQ)
    omega
  omega
theorem dig_step {M M' v : List Nat} {i : Nat} {x y g c c' r : Int} (hk : i < M'.length) (hx : x = (M.getD i 0 : Nat)) (hy : y = (v.getD i 0 : Nat)) (hr : r = x - (g * y + c) + c' * 1000000000) (hr0 : 0 ≤ r)
    (h : (val (M'.take i) : Int) = val (M.take i) - g * val (v.take i) + c * pw i) :
    (val ((M'.set i r.toNat).take (i + 1)) : Int) = val (M.take (i + 1)) - g * val (v.take (i + 1)) + c' * pw (i + 1) := by
  rw [zdp hk, val_take_succ' M, val_take_succ' v, zby]
  have e : ((r.toNat : Nat) : Int) = r := Int.toNat_of_nonneg hr0
  simp only [Int.natCast_add, Int.natCast_mul, e, ← hy, ← hx]
  rw [h]
  subst hr
  generalize (val (M.take i) : Int) = V at *
  generalize (val (v.take i) : Int) = W at *
  generalize (pw i : Int) = P at *
  grind
theorem back_step {M M' v : List Nat} {i : Nat} {x y c c' r : Int} (hk : i < M'.length) (hx : x = (M.getD i 0 : Nat)) (hy : y = (v.getD i 0 : Nat)) (hr : r = x + y + c - c' * 1000000000) (hr0 : 0 ≤ r)
    (h : (val (M'.take i) : Int) + c * pw i = val (M.take i) + val (v.take i)) :
    (val ((M'.set i r.toNat).take (i + 1)) : Int) + c' * pw (i + 1) = val (M.take (i + 1)) + val (v.take (i + 1)) := by
  rw [zdp hk, val_take_succ' M, val_take_succ' v, zby]
  have e : ((r.toNat : Nat) : Int) = r := Int.toNat_of_nonneg hr0
  simp only [Int.natCast_add, Int.natCast_mul, e, ← hy, ← hx]
  subst hr
  generalize (val (M.take i) : Int) = V at *
  generalize (val (v.take i) : Int) = W at *
  generalize (pw i : Int) = P at *
  grind
theorem div_mod_of {U V g R : Nat} (h : U = g * V + R) (hR : R < V) : U / V = g ∧ U % V = R := by
  have hV : 0 < V := by omega
  subst h
  constructor
  · rw [Nat.mul_comm, Nat.mul_add_div hV, Nat.div_eq_of_lt hR, Nat.add_zero]
  · rw [Nat.mul_comm, Nat.mul_add_mod, Nat.mod_eq_of_lt hR]
theorem dig_exact {U V : Nat} {m0 m' P u c g : Int} (hU : (U : Int) = m0 + P * u) (hm : m' = m0 - g * V + c * P) (hm0 : 0 ≤ m') (hmP : m' < P) (huc : c ≤ u) (hVP : (V : Int) ≤ P) (hg0 : 0 ≤ g) (hg : (U : Int) < (g + 1) * V) :
    U / V = g.toNat ∧ ((U % V : Nat) : Int) = m' := by
  have h1 : (U : Int) - g * V = m' + (u - c) * P := by rw [hU, hm]; grind
  have h2 : (u - c) * P < P := by
    rw [Int.add_mul, Int.one_mul] at hg
    omega
  have h3 : u = c := by
    rcases Int.lt_or_le u (c + 1) with h | h
    · omega
    · have h4 := zcs (show 1 ≤ u - c by omega) (show 0 ≤ P by omega)
      omega
  rw [h3, Int.sub_self, Int.zero_mul, Int.add_zero] at h1
  have h5 : m' < V := by rw [Int.add_mul, Int.one_mul] at hg; omega
  have e1 : U = g.toNat * V + m'.toNat := by
    apply Int.ofNat_inj.1
    simp only [Int.natCast_add, Int.natCast_mul]
    rw [Int.toNat_of_nonneg hg0, Int.toNat_of_nonneg hm0]
    omega
  have h6 := div_mod_of e1 (by omega)
  refine ⟨h6.1, ?_⟩
  rw [h6.2]
  exact Int.toNat_of_nonneg hm0
theorem dig_pos {U V : Nat} {m0 m' P u c g : Int} (hU : (U : Int) = m0 + P * u) (hm : m' = m0 - g * V + c * P) (hmP : m' < P) (huc : u < c) (hP : 0 < P) (hg0 : 0 ≤ g) : 1 ≤ g := by
  have h1 : (U : Int) - g * V = m' + (u - c) * P := by rw [hU, hm]; grind
  have h3 : (u - c) * P ≤ -P := by
    have := zcs (show u - c ≤ -1 by omega) (Int.le_of_lt hP)
    omega
  rcases Int.lt_or_le g 1 with h | h
  · have : g = 0 := by omega
    subst this
    rw [Int.zero_mul] at h1
    omega
  · exact h
theorem dig_back {U V : Nat} {m0 m' m2 P u c g o : Int} (hU : (U : Int) = m0 + P * u) (hm : m' = m0 - g * V + c * P) (hmP : m' < P) (huc : u < c) (hVP : (V : Int) ≤ P) (hg0 : 0 ≤ g) (hg : g * V ≤ U + V)
    (h2 : m2 + o * P = m' + V) (hm20 : 0 ≤ m2) (hm2P : m2 < P) :
    1 ≤ g ∧ U / V = (g - 1).toNat ∧ ((U % V : Nat) : Int) = m2 := by
  have h1 : (U : Int) - g * V = m' + (u - c) * P := by rw [hU, hm]; grind
  have hP : 0 < P := by omega
  have h3 : (u - c) * P ≤ -P := by
    have := zcs (show u - c ≤ -1 by omega) (Int.le_of_lt hP)
    omega
  have hg1 : 1 ≤ g := by
    rcases Int.lt_or_le g 1 with h | h
    · have : g = 0 := by omega
      subst this
      rw [Int.zero_mul] at h1
      omega
    · exact h
  have h4 : (U : Int) - (g - 1) * V = m2 + (o + u - c) * P := by
    have e1 : (g - 1) * (V : Int) = g * V - V := by rw [Int.sub_mul, Int.one_mul]
    have e2 : (o + u - c) * P = o * P + (u - c) * P := by rw [← Int.add_mul]; congr 1; omega
    rw [e1, e2]; omega
  have h5 : 0 ≤ (U : Int) - (g - 1) * V := by rw [Int.sub_mul, Int.one_mul]; omega
  have h6 : (U : Int) - (g - 1) * V < V := by rw [Int.sub_mul, Int.one_mul]; omega
  have h7 : o + u - c = 0 := by
    rcases Int.lt_or_le (o + u - c) 0 with h | h
    · have := zcs (show o + u - c ≤ -1 by omega) (Int.le_of_lt hP)
      omega
    · rcases Int.lt_or_le (o + u - c) 1 with h' | h'
      · omega
      · have := zcs h' (Int.le_of_lt hP)
        omega
  rw [h7, Int.zero_mul, Int.add_zero] at h4
  have e1 : U = (g - 1).toNat * V + m2.toNat := by
    apply Int.ofNat_inj.1
    simp only [Int.natCast_add, Int.natCast_mul]
    rw [Int.toNat_of_nonneg (by omega : 0 ≤ g - 1), Int.toNat_of_nonneg hm20]
    omega
  have h8 := div_mod_of e1 (by omega)
  refine ⟨hg1, h8.1, ?_⟩
  rw [h8.2]
  exact Int.toNat_of_nonneg hm20
theorem val_top {l : List Nat} {n : Nat} (h : l.length = n + 1) : val l = val (l.take n) + pw n * l.getD n 0 := by
  rw [← val_take_succ (by omega), List.take_of_length_le (by omega)]
theorem val_two {l : List Nat} {n : Nat} (h : l.length = n + 2) : val l = (l.getD (n + 1) 0 * 1000000000 + l.getD n 0) * pw n + val (l.take n) := by
  rw [← zav (Nat.le_of_eq h), val_take_succ' l (n + 1), val_take_succ' l n, zby]
  grind
theorem val_three {l : List Nat} {n : Nat} (h : l.length = n + 3) : val l = ((l.getD (n + 2) 0 * 1000000000 + l.getD (n + 1) 0) * 1000000000 + l.getD n 0) * pw n + val (l.take n) := by
  rw [← zav (Nat.le_of_eq h), val_take_succ' l (n + 2), val_take_succ' l (n + 1), val_take_succ' l n]
  simp only [zby]
  grind
theorem val_set_top {l : List Nat} {n : Nat} (h : l.length = n + 1) : val (l.set n 0) = val (l.take n) := by
  rw [val_top (n := n) (by simpa using h), List.take_set_of_le (Nat.le_refl n)]
  rw [List.getD_eq_getElem?_getD, List.getElem?_set_self (by omega)]
  simp
theorem set_mid {P M S : List Nat} {i x : Nat} (h : i < M.length) : (P ++ M ++ S).set (P.length + i) x = P ++ M.set i x ++ S := by
  rw [List.append_assoc, List.append_assoc, List.set_append_right _ _ (by omega), Nat.add_sub_cancel_left, List.set_append_left _ _ h]
theorem getD_mid {P M S : List Nat} {i : Nat} (h : i < M.length) : (P ++ M ++ S).getD (P.length + i) 0 = M.getD i 0 := by
  rw [List.append_assoc, List.getD_eq_getElem?_getD, List.getElem?_append_right (by omega), Nat.add_sub_cancel_left, List.getElem?_append_left h, List.getD_eq_getElem?_getD]
theorem factor_facts {b : List Nat} {m : Nat} {b1 : Int} (hb : Lo b) (hl : b.length = m + 2) (h1 : b1 = (b.getD (m + 1) 0 : Nat)) (h0 : 1 ≤ b1) (h9 : b1 ≤ 999999999) :
    1 ≤ 1000000000 / (b1 + 1) ∧ 1000000000 / (b1 + 1) ≤ 999999999 ∧ val b * (1000000000 / (b1 + 1)).toNat < pw (m + 2) := by
  have e1 : 1 ≤ 1000000000 / (b1 + 1) := (Int.le_ediv_iff_mul_le (by omega)).2 (by omega)
  have e2 : 1000000000 / (b1 + 1) ≤ 999999999 := by
    have := Int.ediv_lt_of_lt_mul (a := 1000000000) (b := 1000000000) (c := b1 + 1) (by omega) (by omega)
    omega
  refine ⟨e1, e2, ?_⟩
  have e3 : (b1 + 1) * (1000000000 / (b1 + 1)) ≤ 1000000000 := Int.mul_ediv_self_le (by omega)
  generalize hF : 1000000000 / (b1 + 1) = F at *
  obtain ⟨f, rfl⟩ := Int.eq_ofNat_of_zero_le (show 0 ≤ F by omega)
  simp only [Int.toNat_natCast]
  subst h1
  generalize hbt : b.getD (m + 1) 0 = t at *
  have h3 : (t + 1) * f ≤ 1000000000 := by
    have : (((t + 1) * f : Nat) : Int) ≤ 1000000000 := by simpa using e3
    omega
  have h4 : val b < (t + 1) * pw (m + 1) := by
    rw [val_top hl, hbt]
    have h := zea (zdf hb (m + 1))
    rw [List.length_take, Nat.min_eq_left (by omega)] at h
    rw [Nat.add_mul, Nat.one_mul, Nat.mul_comm (pw (m + 1)) t]
    omega
  have h5 : val b * f < (t + 1) * pw (m + 1) * f := Nat.mul_lt_mul_of_pos_right h4 (by omega)
  have h6 : (t + 1) * pw (m + 1) * f = (t + 1) * f * pw (m + 1) := by rw [Nat.mul_right_comm]
  have h7 := Nat.mul_le_mul_right (pw (m + 1)) h3
  rw [zby (m + 1)]
  omega
theorem top_pos {v : List Nat} {m : Nat} (hv : Lo v) (hl : v.length = m + 2) (h : pw (m + 1) ≤ val v) : 1 ≤ v.getD (m + 1) 0 := by
  rcases Nat.eq_zero_or_pos (v.getD (m + 1) 0) with h0 | h0
  · rw [val_top hl, h0, Nat.mul_zero, Nat.add_zero] at h
    have h2 := zea (zdf hv (m + 1))
    rw [List.length_take, Nat.min_eq_left (by omega)] at h2
    omega
  · exact h0
theorem div_split {L : List Nat} {j n V : Nat} (hlo : Lo L) (hj : j + n + 1 ≤ L.length) (hV : V ≤ pw n) (h : val (L.drop (j + 1)) < V) :
    val ((L.drop j).take (n + 1)) < V * 1000000000 ∧ val (L.drop (j + n + 1)) = 0 ∧ val L = val (L.take j) + pw j * val ((L.drop j).take (n + 1)) := by
  have e1 : val (L.drop (j + 1)) = val ((L.drop (j + 1)).take n) + pw n * val (L.drop (j + n + 1)) := by
    have := zdk (L.drop (j + 1)) n (by simp; omega)
    rw [List.drop_drop, show j + 1 + n = j + n + 1 by omega] at this
    exact this
  have e0 : val (L.drop (j + n + 1)) = 0 := by
    rcases Nat.eq_zero_or_pos (val (L.drop (j + n + 1))) with h0 | h0
    · exact h0
    · have := Nat.mul_le_mul_left (pw n) h0
      omega
  have e2 : val (L.drop j) = val ((L.drop j).take (n + 1)) := by
    have := zdk (L.drop j) (n + 1) (by simp; omega)
    rw [List.drop_drop, show j + (n + 1) = j + n + 1 by omega, e0, Nat.mul_zero, Nat.add_zero] at this
    exact this
  refine ⟨?_, e0, ?_⟩
  · rw [← e2, zfj (by omega)]
    have := zep hlo j
    omega
  · rw [← e2]
    exact zdk L j (by omega)
theorem div_ring (P p r V v q : Nat) : P + p * r + V * (v + p * q) = P + p * (r + V * q) + V * v := by grind
theorem div_step {L M' Lq : List Nat} {j n V X : Nat} (hlo : Lo L) (hj : j + n + 1 ≤ L.length) (hV : V ≤ pw n) (hV0 : 0 < V) (h : val (L.drop (j + 1)) < V) (hM : val M' = val ((L.drop j).take (n + 1)) % V) (hMl : M'.length = n + 1)
    (hq : j < Lq.length) (hq0 : Lq.getD j 0 = 0) (hX : val L + V * val Lq = X) :
    val ((L.take j ++ M' ++ L.drop (j + n + 1)).drop j) < V ∧ val (L.take j ++ M' ++ L.drop (j + n + 1)) + V * val (Lq.set j (val ((L.drop j).take (n + 1)) / V)) = X := by
  have hs := div_split hlo hj hV h
  have hl : (L.take j).length = j := by rw [List.length_take, Nat.min_eq_left (by omega)]
  have hmod := Nat.mod_lt (val ((L.drop j).take (n + 1))) hV0
  constructor
  · rw [List.append_assoc, List.drop_append_of_le_length (by omega), List.drop_of_length_le (by omega), List.nil_append, zbx, hs.2.1, hM]
    omega
  · rw [List.append_assoc, zbx, zbx, hs.2.1, hl, Nat.mul_zero, Nat.add_zero, hM]
    have e := val_set (x := val ((L.drop j).take (n + 1)) / V) hq
    rw [hq0, Nat.mul_zero, Nat.add_zero] at e
    rw [e, ← hX, hs.2.2]
    have d := Nat.mod_add_div (val ((L.drop j).take (n + 1))) V
    rw [div_ring, d]
theorem drop_le (L : List Nat) (i : Nat) (h : i ≤ L.length) : val (L.drop i) * pw i ≤ val L := by
  rw [zdk L i h, Nat.mul_comm (pw i)]
  omega
theorem div_start {L : List Nat} {m k x y F : Nat} (hl : L.length = m + 2 + k + 1) (hL : val L = x * F) (hx : x < pw (m + 2 + k)) (hy : pw (m + 1) ≤ y) (hF : 0 < F) : val (L.drop (k + 1)) < y * F := by
  have h1 := drop_le L (k + 1) (by omega)
  rw [hL] at h1
  have h2 : x * F < pw (m + 1) * F * pw (k + 1) := by
    have := Nat.mul_lt_mul_of_pos_right hx hF
    rw [show m + 2 + k = (m + 1) + (k + 1) by omega, pw_add] at this
    rw [Nat.mul_right_comm]
    exact this
  have h3 := Nat.lt_of_mul_lt_mul_right (Nat.lt_of_le_of_lt h1 h2)
  exact Nat.lt_of_lt_of_le h3 (Nat.mul_le_mul_right F hy)
theorem div_end {a b q u f : Nat} (hf : 0 < f) (hu : u < b * f) (h : u + b * f * q = a * f) : q = a / b ∧ u / f = a % b := by
  have h1 := div_mod_of (U := a * f) (V := b * f) (g := q) (R := u) (by rw [← h, Nat.mul_comm q]; omega) hu
  rw [Nat.mul_div_mul_right _ _ hf] at h1
  rw [Nat.mul_mod_mul_right] at h1
  exact ⟨h1.1.symm, by rw [← h1.2, Nat.mul_div_cancel _ hf]⟩
end Go.Proofs.YtjkgdggkgljdoaaDoor
