/-
  The contracts of package long's small functions: Cmp, trim, IsOne, One, Copy, Of.
-/
import Derived.Test.YtbeocfiimminiaaDoorProg
import Derived.Test.YtbeocfiimminiaaDoorWords
import Derived.Test.YtbeocfiimminiaaDoorPlain2
namespace Go.Proofs.YtbeocfiimminiaaDoor
open Go.RowKit
set_option linter.unusedVariables false

theorem u32_info : (Tryd.prog.info? 34).map (fun i => (i.zero, i.size, i.bytes)) = some (some (.int .u32 0), 1, 4) := by kernel_rfl
theorem elN : ElT Tryd.prog 23 34 (.int .u32 0) 4 := ⟨Tryd.underlying23, info_parts u32_info, rfl⟩

set_option maxHeartbeats 400000 in
theorem cmp_list (A B : Option Addr) (c d : Nat) (a b : List Nat) (w : World) (lo hi lo' hi' : Nat) (ha : Lo a) (hb : Lo b) (hal : a.length ≤ maxLen) (hbl : b.length ≤ maxLen) (hA : SV w lo hi A (cel .u32 a)) (hB : SV w lo' hi' B (cel .u32 b))
    (r : Int) (hr1 : a.length < b.length → r = -1) (hr2 : b.length < a.length → r = 1) (hr3 : a.length = b.length → r = sgn (val a) (val b)) :
    Calls Tryd.prog 36 #[.slice A a.length c, .slice B b.length d] w fun e w' => e = .returned (.int .i64 r) ∧ Dr w w' := by
  unfold maxLen at hal hbl
  have Ha := Lib.hid ha; clear ha
  have Hb := Lib.hid hb; clear hb
  have Hr3 := Lib.hid hr3; clear hr3
  rcases Nat.lt_trichotomy a.length b.length with h | h | h
  · have Hr := Lib.hid (hr1 h); clear hr1 hr2
    go_enter Tryd.func36, Tryd.ntmps36
    go_wp2
    go_ret
    exact ⟨ret_int Hr.out.symm, Dr.refl w⟩
  · have Hr := Lib.hid (Hr3.out h); clear hr1 hr2 Hr3
    have hne : (((a.length : Int)) != (b.length : Int)) = false := by simp [h]
    have H := Lib.hid h
    have h1 : a.length ≤ b.length := by omega
    have h2 : b.length ≤ a.length := by omega
    clear h
    go_enter Tryd.func36, Tryd.ntmps36
    go_wp2
    go_loopw [5] (fun i wr => ∃ k : Nat, k ≤ a.length ∧ i = .int .i64 ((k : Int) - 1) ∧ Dr w wr ∧ Hid (a.drop k = b.drop k)) (fun i _ => (intOf i + 1).toNat)
    case atStart => exact ⟨a.length, Nat.le_refl _, rfl, Dr.refl w, by rw [List.drop_length, H.out, List.drop_length]; rfl⟩
    case round =>
      obtain ⟨k, hk, rfl, ⟨n, rfl⟩, hd⟩ := hrel
      rcases k with _ | k
      · go_wp2
        go_ret
        refine ⟨ret_int ?_, (Dr.refl w).drewN n⟩
        have := hd.out
        simp only [List.drop_zero] at this
        rw [Hr.out, sgn_eq (by rw [this])]
      · obtain ⟨ba, oa, rfl, _, _, hca⟩ := hA (cel_ne hk)
        obtain ⟨bb, ob, rfl, _, _, hcb⟩ := hB (cel_ne (Nat.le_trans hk h1))
        obtain ⟨x, hx, hx0, hxc⟩ := cell_at (j := k) hca (by omega)
        obtain ⟨y, hy, hy0, hyc⟩ := cell_at (j := k) hcb (by omega)
        clear hca hcb
        rw [show (((k + 1 : Nat) : Int) - 1) = (k : Int) from by omega]
        go_wp2
        go_quiet (fail)
        go_wp2
        · go_ret
          refine ⟨ret_int ?_, ((Dr.refl w).drewN n).drewN _⟩
          have hlt : x < y := by assumption
          rw [Hr.out, sgn_lt (val_lt_at Ha.out Hb.out H.out (by omega) hd.out (by have := hx.out; have := hy.out; omega))]
        · go_quiet (fail)
          go_wp2
          · go_ret
            refine ⟨ret_int ?_, (((Dr.refl w).drewN n).drewN _).drewN _⟩
            have hlt : y < x := by assumption
            rw [Hr.out, sgn_gt (val_lt_at Hb.out Ha.out H.out.symm (by omega) hd.out.symm (by have := hx.out; have := hy.out; omega))]
          · go_roundw
            case rel =>
              have g1 : y ≤ x := by assumption
              have g2 : x ≤ y := by assumption
              exact ⟨k, by omega, rfl, ⟨_, rfl⟩, Lib.hid (drop_step H.out (by omega) hd.out (by have := hx.out; have := hy.out; omega))⟩
            case measure => simp [intOf]
  · have Hr := Lib.hid (hr2 h); clear hr1 hr2
    go_enter Tryd.func36, Tryd.ntmps36
    go_wp2
    go_ret
    exact ⟨ret_int Hr.out.symm, Dr.refl w⟩

theorem cmp_n {w : World} {va vb : Value} {x y lo hi lo' hi' : Nat} (ha : IsN w lo hi va x) (hb : IsN w lo' hi' vb y) :
    Calls Tryd.prog 36 #[va, vb] w fun e w' => e = .returned (.int .i64 (sgn x y)) ∧ Dr w w' := by
  have h1 := ha.length_le
  have h2 := hb.length_le
  obtain ⟨A, c, rfl, _, _, hA⟩ := ha
  obtain ⟨B, d, rfl, _, _, hB⟩ := hb
  refine cmp_list A B c d (lim x) (lim y) w _ _ _ _ (lo_lim x) (lo_lim y) h1 h2 hA hB _ ?_ ?_ ?_
  · intro h; exact sgn_lt (lim_len_of_lt h)
  · intro h; exact sgn_gt (lim_len_of_lt h)
  · intro _; rw [val_lim, val_lim]

theorem trim_isN {w : World} {lo hi c m : Nat} {A : Option Addr} {l : List Nat} (hl : Lo l) (hll : l.length ≤ c) (hlc : c ≤ maxLen) (hm : m ≤ l.length) (hz : ∀ j, m ≤ j → j < l.length → l.getD j 0 = 0)
    (hlast : m = 0 ∨ l.getD (m - 1) 0 ≠ 0) (hA : SV w lo hi A (cel .u32 l)) : IsN w lo hi (.slice A m c) (val l) := by
  have h := trim_to hl hm hz hlast
  refine ⟨A, c, ?_, ?_, hlc, ?_⟩
  · rw [h, List.length_take, Nat.min_eq_left hm]
  · rw [h, List.length_take]; omega
  · rw [h, cel_take]; exact hA.take m

set_option maxHeartbeats 400000 in
theorem trim_list (A : Option Addr) (c : Nat) (l : List Nat) (w : World) (lo hi : Nat) (hl : Lo l) (hll : l.length ≤ c) (hlc : c ≤ maxLen) (hA : SV w lo hi A (cel .u32 l)) :
    Calls Tryd.prog 56 #[.slice A l.length c] w fun e w' => (∃ v, e = .returned v ∧ IsN w lo hi v (val l)) ∧ w = w' := by
  have Hlc2 := Lib.hid hlc
  unfold maxLen at hlc
  have Hl := Lib.hid hl; clear hl
  go_enter Tryd.func56, Tryd.ntmps56
  go_wp2
  go_loop [0] (fun s => ∃ m : Nat, m ≤ l.length ∧ s = .slice A m c ∧ Hid (∀ j, m ≤ j → j < l.length → l.getD j 0 = 0)) (fun s => match s with | .slice _ m _ => m | _ => 0)
  case atStart => exact ⟨l.length, Nat.le_refl _, rfl, Lib.hid (by intro j h1 h2; omega)⟩
  case round =>
    obtain ⟨m, hm, rfl, hz⟩ := hrel
    rcases m with _ | m
    · go_wp2
      go_ret
      exact ⟨⟨_, rfl, trim_isN Hl.out hll Hlc2.out (Nat.zero_le _) hz.out (.inl rfl) hA⟩, rfl⟩
    · obtain ⟨ba, oa, rfl, _, _, hca⟩ := hA (cel_ne hm)
      obtain ⟨x, hx, hx0, hxc⟩ := cell_at (j := m) hca (by omega)
      clear hca
      by_cases h0 : x = 0
      · subst h0
        go_wp2
        go_round
        case rel => exact ⟨m, by omega, rfl, Lib.hid (by
          intro j h1 h2
          rcases Nat.eq_or_lt_of_le h1 with h3 | h3
          · subst h3; have := hx.out; omega
          · exact hz.out j h3 h2)⟩
        case measure => simp
      · have hb : (x == 0) = false := by simpa using h0
        go_wp2
        go_ret
        exact ⟨⟨_, rfl, trim_isN Hl.out hll Hlc2.out hm hz.out (.inr (by have := hx.out; simp only [Nat.add_sub_cancel]; omega)) hA⟩, rfl⟩

theorem trim_l {w : World} {va : Value} {l : List Nat} {lo hi : Nat} (ha : IsL .u32 w lo hi va l) (hl : Lo l) :
    Calls Tryd.prog 56 #[va] w fun e w' => (∃ v, e = .returned v ∧ IsN w lo hi v (val l)) ∧ w = w' := by
  obtain ⟨A, c, rfl, hc, hcm, hA⟩ := ha
  exact trim_list A c l w lo hi hl hc hcm hA

theorem lim_one : lim 1 = [1] := lim_small (by omega) (by omega)

set_option maxHeartbeats 400000 in
theorem one_n (w : World) :
    Calls Tryd.prog 49 #[] w fun e w' => (∃ v, e = .returned v ∧ IsN w' w.heap.size w'.heap.size v 1) ∧ Below w.heap.size w w' := by
  go_enter Tryd.func49, Tryd.ntmps49
  go_wp2
  go_ret
  refine ⟨⟨_, rfl, ?_⟩, (Below.refl _ _).alloc (Nat.le_refl _) _⟩
  have h := isL_new .u32 w 34 [1] (by simp [maxLen])
  unfold IsN
  rw [lim_one, World.size_alloc]
  exact h

set_option maxHeartbeats 400000 in
theorem copy_n {w : World} {va : Value} {x lo hi : Nat} (ha : IsN w lo hi va x) (hx : (lim x).length ≤ 4294967296) :
    Calls Tryd.prog 52 #[va] w fun e w' => (∃ v, e = .returned v ∧ IsN w' w.heap.size w'.heap.size v x) ∧ Below w.heap.size w w' := by
  obtain ⟨A, c, rfl, hc, hcm, hA⟩ := ha
  go_enter Tryd.func52, Tryd.ntmps52
  go_wp2_with (at_builtin; refine wp_appN elN rfl _ _ rfl rfl (Own.nil _ _ _) rfl (cel_length _ _) hA (cel_one _ _) (by simp only [List.length_nil]; omega) (Nat.le_refl _) ?_; intro v1 w1 hown hb hz)
  go_ret
  exact ⟨⟨_, rfl, Own.isL (by simpa using hown)⟩, hb⟩

theorem cel_snoc (k : IntKind) (l : List Nat) (x : Nat) (y : Int) (h : y = (x : Int)) : cel k l ++ [.int k y] = cel k (l ++ [x]) := by subst h; simp [cel]

set_option maxHeartbeats 400000 in
theorem of_n (w : World) (n : Nat) (hn : n ≤ 18446744073709551615) :
    Calls Tryd.prog 46 #[.int .u64 (n : Int)] w fun e w' => (∃ v, e = .returned v ∧ IsN w' w.heap.size w'.heap.size v n) ∧ Below w.heap.size w w' := by
  generalize hB : w.heap.size = B
  have HB := Lib.hid hB; clear hB
  go_enter Tryd.func46, Tryd.ntmps46
  go_wp2
  go_loopw [0, 3] (fun x v wr => ∃ m : Nat, ∃ l : List Nat, x = .int .u64 (m : Int) ∧ m ≤ n ∧ Own wr B 34 v (cel .u32 l) ∧ Below B w wr ∧ l.length + (lim m).length ≤ 5 ∧ Hid (l ++ lim m = lim n)) (fun x _ _ => (intOf x).toNat)
  case atStart =>
    refine ⟨n, [], rfl, Nat.le_refl _, Own.nil _ _ _, Below.refl _ _, ?_, rfl⟩
    rw [List.length_nil, Nat.zero_add, lim_len_le]
    simp [pw]
    omega
  case round =>
    obtain ⟨m, l, rfl, hm, hown, hb, hlen, hl⟩ := hrel
    have hBw : B ≤ wr.heap.size := by have := hb.size; have := HB.out; omega
    by_cases h0 : m = 0
    · subst h0
      go_wp2
      go_ret
      have := hl.out
      rw [lim_zero, List.append_nil] at this
      subst this
      exact ⟨⟨_, rfl, Own.isL hown⟩, hb⟩
    · go_wp2_with (at_builtin; refine wp_app1 elN rfl _ _ rfl rfl hown rfl rfl (by rw [cel_length]; omega) hBw ?_; intro v1 w1 hown1 hb1 hz1)
      go_roundw
      case rel =>
        rw [cel_snoc .u32 l (m % 1000000000) _ (by omega)] at hown1
        have h1 := lim_pos h0
        refine ⟨m / 1000000000, l ++ [m % 1000000000], by go_num, by omega, hown1, hb.trans hb1, ?_, ?_⟩
        · rw [h1] at hlen; simp only [List.length_append, List.length_cons, List.length_nil] at hlen ⊢; omega
        · have := hl.out
          rw [h1] at this
          rw [← this, List.append_assoc]
          rfl
      case measure => simp [intOf]; omega

theorem of_i (w : World) (n : Int) (h0 : 0 ≤ n) (hn : n ≤ 18446744073709551615) :
    Calls Tryd.prog 46 #[.int .u64 n] w fun e w' => (∃ v, e = .returned v ∧ IsN w' w.heap.size w'.heap.size v n.toNat) ∧ Below w.heap.size w w' := by
  obtain ⟨m, rfl⟩ := Int.eq_ofNat_of_zero_le h0
  exact of_n w m (by omega)
end Go.Proofs.YtbeocfiimminiaaDoor
