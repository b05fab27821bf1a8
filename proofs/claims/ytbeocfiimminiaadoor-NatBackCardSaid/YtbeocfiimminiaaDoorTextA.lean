/-
  The contract of package nat's Text.
-/
import Derived.Test.YtbeocfiimminiaaDoorAwake
import Derived.Test.YtbeocfiimminiaaDoorWordsB
namespace Go.Proofs.YtbeocfiimminiaaDoor
open Go.RowKit
set_option linter.unusedVariables false

theorem u8_info : (Tryd.prog.info? 5).map (fun i => (i.zero, i.size, i.bytes)) = some (some (.int .u8 0), 1, 1) := by kernel_rfl
theorem elB : ElT Tryd.prog 51 5 (.int .u8 0) 1 := ⟨Tryd.underlying51, info_parts u8_info, rfl⟩

/-- The table of the digits lies in memory. -/
def Dig (w : World) : Prop := 0 < w.heap.size ∧ ∀ i, i < 10 → w.cell? ⟨0, i, none⟩ = some (.int .u8 ((48 + i : Nat) : Int))
theorem Dig.below {w w' : World} (h : Dig w) (hb : Below w.heap.size w w') : Dig w' :=
  ⟨Nat.lt_of_lt_of_le h.1 hb.size, fun i hi => (hb.cell (p := ⟨0, i, none⟩) h.1).trans (h.2 i hi)⟩

theorem slice_eq2 {g i i' a b c d : Nat} (h0 : i = i') (h : a = b) (h2 : c = d) : Value.slice (some ⟨g, i, none⟩) a c = Value.slice (some ⟨g, i', none⟩) b d := by rw [h0, h, h2]

set_option maxHeartbeats 400000 in
theorem ntext_bad {w : World} {va : Value} {l : List Nat} {lo hi : Nat} (ha : IsL .u32 w lo hi va l) (he : chk l ≠ 0) :
    Calls Tryd.prog 10 #[va] w fun e w' => e = .returned (.tuple #[.string ⟨#[]⟩, .int .i64 (chk l)]) ∧ Below w.heap.size w w' := by
  have Ha := Lib.hid ha
  obtain ⟨A, c, rfl, _, _, _⟩ := ha
  have hne : (chk l != 0) = true := bne_iff_ne.2 he
  clear he
  go_enter Tryd.func10, Tryd.ntmps10
  go_wp2_with fail
  refine (check_l Ha.out).mono ?_
  rintro e w1 ⟨rfl, rfl⟩
  go_wp2_with fail
  go_ret2
  exact ⟨rfl, Below.refl _ _⟩

set_option maxRecDepth 100000 in
set_option maxHeartbeats 1000000 in
theorem ntext_ok {w : World} {va : Value} {n : Nat} {lo hi : Nat} (ha : IsN w lo hi va n) (hi1 : hi ≤ w.heap.size) (hn : (lim n).length ≤ 1024) (hD : Dig w) :
    Calls Tryd.prog 10 #[va] w fun e w' => e = .returned (.tuple #[.string (bs (txt n)), .int .i64 0]) ∧ Below w.heap.size w w' := by
  have Ha := Lib.hid ha
  have Hc := Lib.hid (chk_lim hn)
  obtain ⟨A, c, rfl, _, _, hA⟩ := ha
  rcases Nat.eq_zero_or_pos n with h0 | h0
  · subst h0
    have hl0 : (lim 0).length = 0 := by rw [lim_zero]; rfl
    rw [hl0] at Ha ⊢
    clear hl0
    have Ht : Hid (bs (txt 0) = ⟨#[48]⟩) := rfl
    go_enter Tryd.func10, Tryd.ntmps10
    go_wp2_with fail
    refine (check_l Ha.out).mono ?_
    rw [Hc.out]
    rintro e w1 ⟨rfl, rfl⟩
    go_wp2_with fail
    go_ret2
    rw [Ht.out]
    exact ⟨rfl, Below.refl _ _⟩
  · generalize hl : lim n = l at *
    have Hl := Lib.hid hl; clear hl
    have hl1 : 1 ≤ l.length := by rw [← Hl.out]; have := lim_nil_iff (n := n); omega
    go_enter Tryd.func10, Tryd.ntmps10
    go_wp2_with fail
    refine (check_l Ha.out).mono ?_
    rw [Hl.out, Hc.out]
    rintro e w1 ⟨rfl, rfl⟩
    go_wp2_with (at_make; refine wp_make elB rfl _ _ rfl (9 * l.length) rfl rfl (by omega) (by omega) (by omega) ?_; intro G w1 hG hr1 hb1 hz1)
    have hGe : w.heap.size ≤ G := by have := hG.out; omega
    have hb1' : Below w.heap.size w w1 := hb1.mono hGe
    go_loopw [24] (fun i wr => ∃ (k : Nat) (L : List Nat), k ≤ l.length ∧ i = .int .i64 (k : Int) ∧ Row wr G 5 (cel .u8 L) ∧ Below w.heap.size w wr ∧ Hid (L.length = 9 * l.length ∧ ∀ p, p < 9 * k → L.getD (9 * l.length - 1 - p) 0 = 48 + dg n p)) (fun i _ => l.length - (intOf i).toNat)
    case atStart => exact ⟨0, _, Nat.zero_le _, rfl, hr1, hb1', by simp, fun p hp => by omega⟩
    case round =>
      obtain ⟨k, L, hk, rfl, hr, hbw, hrel⟩ := hrel
      rcases Nat.lt_or_ge k l.length with hlt | hge
      · obtain ⟨ba, oa, rfl, _, _, hca⟩ := (hA.below hbw hi1) (cel_ne (j := k) hlt)
        obtain ⟨x, hx, hx0, hx1, hxc⟩ := cell_lo (j := k) (by rw [← Hl.out]; exact lo_lim n) hca hlt
        clear hca
        have HR := hrel; clear hrel
        obtain ⟨wo, rfl⟩ : ∃ wo : World, wo = wr := ⟨_, rfl⟩
        go_wp2
        go_loopw [7, 35] (fun xv i wr => ∃ (j : Nat) (M : List Nat) (y : Int), j ≤ 9 ∧ i = .int .i64 (j : Int) ∧ xv = .int .u32 y ∧ 0 ≤ y ∧ y ≤ 999999999 ∧ Row wr G 5 (cel .u8 M) ∧ Below w.heap.size w wr ∧
            Hid (M.length = 9 * l.length ∧ y = (n / pw k % 1000000000 / tn j : Nat) ∧ ∀ p, p < 9 * k + j → M.getD (9 * l.length - 1 - p) 0 = 48 + dg n p)) (fun _ i _ => 9 - (intOf i).toNat)
        case atStart =>
          refine ⟨0, L, x, by omega, rfl, rfl, hx0, hx1, hr, hbw, HR.out.1, ?_, fun p hp => HR.out.2 p (by omega)⟩
          rw [hx.out, ← Hl.out, lim_getD, tn_zero, Nat.div_one]
        case round =>
          clear hr hxc hbw
          obtain ⟨j, M, y, hj, rfl, rfl, hy0, hy1, hr, hbw, hrel⟩ := hrel
          rcases Nat.lt_or_ge j 9 with hjl | hjg
          · obtain ⟨d, hd, hd0, hd1, hdc⟩ : ∃ d : Int, Hid (d = 48 + y % 10) ∧ 0 ≤ d ∧ d ≤ 57 ∧ wr.cell? ⟨0, (y % 10).toNat, none⟩ = some (.int .u8 d) :=
              ⟨_, rfl, by omega, by omega, by rw [hbw.cell (p := ⟨0, (y % 10).toNat, none⟩) hD.1, hD.2 (y % 10).toNat (by omega)]; exact congrArg some (int_eq (by omega))⟩
            obtain ⟨z, hz, hz0, hzc⟩ := hr.num (i := 9 * l.length - 9 * k - 1 - j) (by rw [hrel.out.1]; omega)
            have hzf := hr.frozen (9 * l.length - 9 * k - 1 - j)
            go_wp2
            go_roundw
            case rel =>
              refine ⟨j + 1, M.set (9 * l.length - 9 * k - 1 - j) d.toNat, y / 10, by omega, by go_num, rfl, by omega, by omega, hr.setNum _ _ _ (by omega), hbw.setCell hGe _, by rw [List.length_set]; exact hrel.out.1, ?_, ?_⟩
              · rw [hrel.out.2.1, tn_succ, Nat.mul_comm 10, ← Nat.div_div_eq_div_mul]; rfl
              · intro p hp
                rcases Nat.lt_or_ge p (9 * k + j) with h1 | h1
                · rw [getD_set_ne (by omega)]; exact hrel.out.2.2 p h1
                · obtain rfl : p = 9 * k + j := by omega
                  rw [show 9 * l.length - 1 - (9 * k + j) = 9 * l.length - 9 * k - 1 - j by omega, getD_set_eq (by rw [hrel.out.1]; omega)]
                  have h2 := hrel.out.2.1
                  rw [← dg_limb n k j hjl]
                  have h3 := hd.out
                  omega
            case measure => simp [intOf]; omega
          · obtain rfl : j = 9 := by omega
            go_wp2
            go_roundw
            case rel => exact ⟨k + 1, M, by omega, by go_num, hr, hbw, hrel.out.1, fun p hp => hrel.out.2.2 p (by omega)⟩
            case measure => simp [intOf]; omega
      · obtain rfl : k = l.length := by omega
        have HR := hrel
        clear hrel
        have Hb : Hid (pw (l.length - 1) ≤ n ∧ n < tn (9 * l.length)) := by
          rw [tn_nine]
          refine ⟨lim_len_lt.1 (by rw [Hl.out]; omega), ?_⟩
          have := lim_lt n
          rw [Hl.out] at this
          exact this
        have hdig := hD.below hbw
        have hd0 := hdig.2 0 (by omega)
        obtain ⟨wo, rfl⟩ : ∃ wo : World, wo = wr := ⟨_, rfl⟩
        go_wp2
        go_loopw [5] (fun v wr' => ∃ j : Nat, j < 9 * l.length ∧ v = .slice (some ⟨G, j, none⟩) (9 * l.length - j) (9 * l.length - j) ∧ Dr wo wr' ∧ Hid (n < tn (9 * l.length - j))) (fun v _ => match v with | .slice _ m _ => m | _ => 0)
        case atStart => exact ⟨0, by omega, rfl, Dr.refl _, Hb.out.2⟩
        case round =>
          obtain ⟨j, hj, rfl, ⟨nn, rfl⟩, hlt⟩ := hrel
          obtain ⟨y, hy, hy0, hyc⟩ := hr.num (i := j) (by rw [HR.out.1]; omega)
          have Hy : Hid (y = 48 + dg n (9 * l.length - 1 - j)) := by
            have := HR.out.2 (9 * l.length - 1 - j) (by omega)
            rw [show 9 * l.length - 1 - (9 * l.length - 1 - j) = j by omega] at this
            unfold Hid
            rw [hy.out, this]
            simp
          by_cases hz : y = 48
          · subst hz
            have hlt2 : Hid (n < tn (9 * l.length - (j + 1))) := lt_of_zeros (k := 1) (by rw [show 9 * l.length - (j + 1) + 1 = 9 * l.length - j by omega]; exact hlt.out) (fun p h1 h2 => by
              obtain rfl : p = 9 * l.length - 1 - j := by omega
              have := Hy.out
              omega)
            have hj2 : j + 1 < 9 * l.length := by
              rcases Nat.lt_or_ge (j + 1) (9 * l.length) with h | h
              · exact h
              · have := hlt2.out
                rw [show 9 * l.length - (j + 1) = 0 by omega, tn_zero] at this
                omega
            go_wp2
            go_quiet (fail)
            go_wp2
            go_roundw
            case rel => exact ⟨j + 1, hj2, slice_eq2 rfl (by omega) (by omega), ⟨_, rfl⟩, hlt2⟩
            case measure => simp; omega
          · have hb48 : (y == 48) = false := beq_eq_false_iff_ne.2 hz
            have Ht : Hid (txt n = (List.range (9 * l.length - 1 - j + 1)).map fun q => 48 + dg n (9 * l.length - 1 - j - q)) := txt_of (by rw [show 9 * l.length - 1 - j + 1 = 9 * l.length - j by omega]; exact hlt.out)
              (ge_of_digit (by have := Hy.out; omega))
            clear hz
            go_wp2
            go_quiet (fail)
            go_wp2_with (refine wp_bytesStr (o := ⟨some 60, _, _, _, _, _⟩) rfl 51 9 5 _ rfl Tryd.underlying51 Tryd.underlying5 Tryd.underlying9 (l := txt n) rfl (by rw [Ht.out]; simp; omega) (fun q hq => ?_) ?_)
            · show wo.cell? ⟨G, j + q, none⟩ = _
              rw [hr.cell, cel_at (by rw [HR.out.1]; omega), Ht.out, List.getD_eq_getElem?_getD (l := List.map _ _), List.getElem?_map, List.getElem?_range (by omega)]
              have := HR.out.2 (9 * l.length - 1 - j - q) (by omega)
              rw [show 9 * l.length - 1 - (9 * l.length - 1 - j - q) = j + q by omega] at this
              rw [this]
              rfl
            · go_wp2
              go_ret2
              exact ⟨rfl, below_drewN hbw _⟩
end Go.Proofs.YtbeocfiimminiaaDoor
