/-
  The contract of the reference's Text.
-/
import Derived.Test.YtbeocfiimminiaaDoorBytes
import Derived.Test.YtbeocfiimminiaaDoorRefA
namespace Go.Proofs.YtbeocfiimminiaaDoor
open Go.RowKit
set_option linter.unusedVariables false

/-- An owned slice that holds something: its row. -/
theorem Own.row {w : World} {base : Nat} {e : TypeId} {v : Value} {xs : List Value} (h : Own w base e v xs) (hx : xs ≠ []) :
    ∃ g sp cap, v = .slice (some ⟨g, 0, none⟩) xs.length cap ∧ base ≤ g ∧ Row w g e (xs ++ sp) ∧ xs.length ≤ cap ∧ cap ≤ maxLen := by
  rcases h.2 with ⟨_, hn⟩ | ⟨g, cap, cur, hv, hb, hh, hn, hcm, hcs, htake⟩
  · exact absurd (List.eq_nil_of_length_eq_zero hn) hx
  · refine ⟨g, cur.toList.drop xs.length, cap, hv, hb, ?_, hn, hcm⟩
    unfold Row
    rw [Nat.mul_one] at htake
    have e : xs ++ List.drop xs.length cur.toList = cur.toList := by
      conv => lhs; lhs; rw [← htake]
      exact List.take_append_drop _ _
    rw [e]
    exact hh
/-- A row of numbers with something behind it. -/
theorem Row.numS {w : World} {g : Nat} {t : TypeId} {k : IntKind} {l : List Nat} {sp : List Value} (h : Row w g t (cel k l ++ sp)) {i : Nat} (hi : i < l.length) :
    ∃ x : Int, Hid (x = (l.getD i 0 : Nat)) ∧ 0 ≤ x ∧ w.cell? ⟨g, i, none⟩ = some (.int k x) := by
  refine ⟨_, rfl, by omega, ?_⟩
  rw [h.cell, List.getElem?_append_left (by rw [cel_length]; exact hi), cel_at hi]
theorem Row.setS {w : World} {g : Nat} {t : TypeId} {k : IntKind} {l : List Nat} {sp : List Value} (h : Row w g t (cel k l ++ sp)) (i n : Nat) (hi : i < l.length) (x : Int) (hx : x = (n : Int)) :
    Row (w.setCell ⟨g, i, none⟩ (.int k x)) g t (cel k (l.set i n) ++ sp) := by
  subst hx
  rw [cel_set, ← List.set_append_left _ _ (by rw [cel_length]; exact hi)]
  exact h.set_ i _

set_option maxHeartbeats 400000 in
theorem rtext_bad {w : World} {va : Value} {l : List Nat} {lo hi : Nat} (ha : IsL .u32 w lo hi va l) (he : chk l ≠ 0) :
    Calls Tryd.prog 11 #[va] w fun e w' => e = .returned (.tuple #[.string ⟨#[]⟩, .int .i64 (chk l)]) ∧ Below w.heap.size w w' := by
  have Ha := Lib.hid ha
  obtain ⟨A, c, rfl, _, _, _⟩ := ha
  have hne : (chk l != 0) = true := bne_iff_ne.2 he
  clear he
  go_enter Tryd.func11, Tryd.ntmps11
  go_wp2_with fail
  refine (rcheck_l Ha.out).mono ?_
  rintro e w1 ⟨rfl, rfl⟩
  go_wp2_with fail
  go_ret2
  exact ⟨rfl, Below.refl _ _⟩

set_option maxRecDepth 100000 in
set_option maxHeartbeats 1000000 in
theorem rtext_ok {w : World} {va : Value} {n : Nat} {lo hi : Nat} (ha : IsN w lo hi va n) (hi1 : hi ≤ w.heap.size) (hn : (lim n).length ≤ 1024) :
    Calls Tryd.prog 11 #[va] w fun e w' => e = .returned (.tuple #[.string (bs (txt n)), .int .i64 0]) ∧ Below w.heap.size w w' := by
  have Ha := Lib.hid ha
  have Hc := Lib.hid (chk_lim hn)
  obtain ⟨A, c, rfl, _, _, hA⟩ := ha
  generalize hl : lim n = l at *
  have Hl := Lib.hid hl; clear hl
  go_enter Tryd.func11, Tryd.ntmps11
  go_wp2_with fail
  refine (rcheck_l Ha.out).mono ?_
  rw [Hl.out, Hc.out]
  rintro e w1 ⟨rfl, rfl⟩
  go_wp2_with fail
  go_loopw [5, 6] (fun v i wr => ∃ (k : Nat) (L : List Nat), k ≤ l.length ∧ i = .int .i64 (k : Int) ∧ Own wr w.heap.size 5 v (cel .u8 L) ∧ Below w.heap.size w wr ∧ Hid (L.length = 9 * k ∧ ∀ p, p < 9 * k → L.getD p 0 = 48 + dg n p)) (fun _ i _ => l.length - (intOf i).toNat)
  case atStart => exact ⟨0, [], Nat.zero_le _, rfl, Own.nil _ _ _, Below.refl _ _, rfl, fun p hp => by omega⟩
  case round =>
    obtain ⟨k, L, hk, rfl, hown, hbw, hrel⟩ := hrel
    rcases Nat.lt_or_ge k l.length with hlt | hge
    · obtain ⟨ba, oa, rfl, _, _, hca⟩ := (hA.below hbw hi1) (cel_ne (j := k) hlt)
      obtain ⟨x, hx, hx0, hx1, hxc⟩ := cell_lo (j := k) (by rw [← Hl.out]; exact lo_lim n) hca hlt
      clear hca
      have HR := hrel; clear hrel
      obtain ⟨wo, rfl⟩ : ∃ wo : World, wo = wr := ⟨_, rfl⟩
      go_wp2
      go_loopw [5, 7, 8] (fun v xv i wr => ∃ (j : Nat) (M : List Nat) (y : Int), j ≤ 9 ∧ i = .int .i64 (j : Int) ∧ xv = .int .u32 y ∧ 0 ≤ y ∧ y ≤ 999999999 ∧ Own wr w.heap.size 5 v (cel .u8 M) ∧ Below w.heap.size w wr ∧
          Hid (M.length = 9 * k + j ∧ y = (n / pw k % 1000000000 / tn j : Nat) ∧ ∀ p, p < 9 * k + j → M.getD p 0 = 48 + dg n p)) (fun _ _ i _ => 9 - (intOf i).toNat)
      case atStart =>
        refine ⟨0, L, x, by omega, rfl, rfl, hx0, hx1, hown, hbw, HR.out.1, ?_, fun p hp => HR.out.2 p (by omega)⟩
        rw [hx.out, ← Hl.out, lim_getD, tn_zero, Nat.div_one]
      case round =>
        clear hown hxc hbw
        obtain ⟨j, M, y, hj, rfl, rfl, hy0, hy1, hown, hbw, hrel⟩ := hrel
        have hBw := hbw.size
        rcases Nat.lt_or_ge j 9 with hjl | hjg
        · have hlen : Hid ((cel .u8 M).length = 9 * k + j) := by rw [Hid, cel_length]; exact hrel.out.1
          go_wp2_with (at_builtin; refine wp_app1 elB rfl _ _ rfl rfl hown rfl rfl (by rw [hlen.out]; omega) hBw ?_; intro v2 w2 hown2 hb2 hz2)
          go_roundw
          case rel =>
            have hd : ((48 + y % 10 : Int)) = ((48 + dg n (9 * k + j) : Nat) : Int) := by
              have h2 := hrel.out.2.1
              rw [← dg_limb n k j hjl]
              omega
            rw [cel_snoc .u8 M (48 + dg n (9 * k + j)) _ hd] at hown2
            refine ⟨j + 1, M ++ [48 + dg n (9 * k + j)], y / 10, by omega, by go_num, rfl, by omega, by omega, hown2, hbw.trans hb2, ?_, ?_, ?_⟩
            · rw [List.length_append, hrel.out.1]; rfl
            · rw [hrel.out.2.1, tn_succ, Nat.mul_comm 10, ← Nat.div_div_eq_div_mul]; rfl
            · intro p hp
              rcases Nat.lt_or_ge p (9 * k + j) with h1 | h1
              · rw [List.getD_eq_getElem?_getD, List.getElem?_append_left (by rw [hrel.out.1]; exact h1), ← List.getD_eq_getElem?_getD]
                exact hrel.out.2.2 p h1
              · obtain rfl : p = 9 * k + j := by omega
                rw [List.getD_eq_getElem?_getD, List.getElem?_append_right (by rw [hrel.out.1]; omega), hrel.out.1, Nat.sub_self]
                rfl
          case measure => simp [intOf]; omega
        · obtain rfl : j = 9 := by omega
          go_wp2
          go_roundw
          case rel => exact ⟨k + 1, M, by omega, by go_num, hown, hbw, by rw [hrel.out.1]; omega, fun p hp => hrel.out.2.2 p (by omega)⟩
          case measure => simp [intOf]; omega
    · obtain rfl : k = l.length := by omega
      have HR := hrel
      clear hrel
      have Hb : Hid (n < tn (9 * l.length)) := by
        rw [tn_nine]
        have := lim_lt n
        rw [Hl.out] at this
        exact this
      obtain ⟨wo, rfl⟩ : ∃ wo : World, wo = wr := ⟨_, rfl⟩
      rcases Nat.eq_zero_or_pos l.length with h0 | h0
      · have hL0 : L = [] := List.eq_nil_of_length_eq_zero (by rw [HR.out.1, h0])
        subst hL0
        obtain ⟨A1, c1, hv1, _, _, _⟩ := hown.sl
        have hv1' : u5 = .slice A1 0 c1 := hv1
        subst hv1'
        have Hn : Hid (bs (txt n) = ⟨#[48]⟩) := by
          have := Hb.out
          rw [h0] at this
          have h1 : n = 0 := by simp [tn] at this; omega
          subst h1
          rfl
        go_wp2
        go_loop [5] (fun v => v = .slice A1 0 c1) (fun _ => 0)
        case atStart => exact rfl
        case round =>
          obtain rfl := hrel
          go_wp2
          go_ret2
          rw [Hn.out]
          exact ⟨rfl, hbw⟩
      · have hn0 : 0 < n := by
          rcases Nat.eq_zero_or_pos n with h | h
          · subst h
            have := Hl.out
            rw [lim_zero] at this
            subst this
            simp at h0
          · exact h
        obtain ⟨g, sp, cap, hv, hgb, hr, hcap, hcm⟩ := hown.row (cel_ne (j := 0) (by rw [HR.out.1]; omega))
        rw [cel_length, HR.out.1] at hv hcap
        subst hv
        go_wp2
        go_loop [5] (fun v => ∃ m : Nat, 1 ≤ m ∧ m ≤ 9 * l.length ∧ v = .slice (some ⟨g, 0, none⟩) m cap ∧ Hid (n < tn m)) (fun v => match v with | .slice _ m _ => m | _ => 0)
        case atStart => exact ⟨9 * l.length, by omega, Nat.le_refl _, rfl, Hb.out⟩
        case round =>
          obtain ⟨m, hm1, hm, rfl, hlt⟩ := hrel
          obtain ⟨d, rfl⟩ : ∃ d, m = d + 1 := ⟨m - 1, by omega⟩
          obtain ⟨y, hy, hy0, hyc⟩ := hr.numS (i := d) (by rw [HR.out.1]; omega)
          have Hy : Hid (y = 48 + dg n d) := by
            unfold Hid
            rw [hy.out, HR.out.2 d (by omega)]
            simp
          by_cases hz : y = 48
          · subst hz
            have hlt2 : Hid (n < tn d) := lt_of_zeros (k := 1) hlt.out (fun p h1 h2 => by
              obtain rfl : p = d := by omega
              have := Hy.out
              omega)
            have hd1 : 1 ≤ d := by
              rcases Nat.eq_zero_or_pos d with h | h
              · have := hlt2.out
                rw [h, tn_zero] at this
                omega
              · exact h
            go_wp2
            go_round
            case rel => exact ⟨d, hd1, by omega, rfl, hlt2⟩
            case measure => simp
          · have hb48 : (y == 48) = false := beq_eq_false_iff_ne.2 hz
            have Ht : Hid (txt n = (List.range (d + 1)).map fun q => 48 + dg n (d - q)) := txt_of hlt.out (ge_of_digit (by have := Hy.out; omega))
            have hdn : ((((d : Int) + 1)) == 0) = false := beq_eq_false_iff_ne.2 (by omega)
            clear hz
            go_wp2
            go_loopw [9, 10] (fun iv kv wr => ∃ (a : Nat) (R : List Nat), a ≤ d ∧ iv = .int .i64 (a : Int) ∧ kv = .int .i64 ((d : Int) - a) ∧ Row wr g 5 (cel .u8 R ++ sp) ∧ Below w.heap.size w wr ∧
                Hid (R.length = 9 * l.length ∧ ∀ q, q ≤ d → R.getD q 0 = if q < a ∨ d < q + a then L.getD (d - q) 0 else L.getD q 0)) (fun iv _ _ => d + 1 - (intOf iv).toNat)
            case atStart => exact ⟨0, L, Nat.zero_le _, rfl, int_eq (by omega), hr, hbw, HR.out.1, fun q hq => by rw [if_neg (by omega)]⟩
            case round =>
              clear hr hbw hown hyc
              obtain ⟨a, R, ha, rfl, rfl, hr, hbw, hrel⟩ := hrel
              rcases Nat.lt_or_ge (2 * a) d with hlt2 | hge2
              · obtain ⟨y1, hy1, hy10, hy1c⟩ := hr.numS (i := a) (by rw [hrel.out.1]; omega)
                obtain ⟨y2, hy2, hy20, hy2c⟩ := hr.numS (i := d - a) (by rw [hrel.out.1]; omega)
                have hf1 := hr.frozen a
                have hf2 := hr.frozen (d - a)
                have hda : ((d : Int) - a) = ((d - a : Nat) : Int) := by omega
                rw [hda]
                go_wp2
                go_region
                go_wp2
                go_roundw
                case rel =>
                  refine ⟨a + 1, (R.set a (R.getD (d - a) 0)).set (d - a) (R.getD a 0), by omega, by go_num, int_eq (by omega),
                    Row.drew ((hr.setS a _ (by rw [hrel.out.1]; omega) _ hy2.out).setS (d - a) _ (by rw [List.length_set, hrel.out.1]; omega) _ hy1.out), ((hbw.setCell hgb _).setCell hgb _).drew, by rw [List.length_set, List.length_set]; exact hrel.out.1, fun q hq => ?_⟩
                  by_cases hqa : q = d - a
                  · subst hqa
                    rw [getD_set_eq (by rw [List.length_set, hrel.out.1]; omega), hrel.out.2 a (by omega), if_neg (by omega), if_pos (by omega), show d - (d - a) = a by omega]
                  · rw [getD_set_ne (by omega)]
                    by_cases hqb : q = a
                    · subst hqb
                      rw [getD_set_eq (by rw [hrel.out.1]; omega), hrel.out.2 (d - q) (by omega), if_neg (by omega), if_pos (by omega)]
                    · rw [getD_set_ne (by omega), hrel.out.2 q hq]
                      by_cases hc : q < a ∨ d < q + a
                      · rw [if_pos hc, if_pos (by omega)]
                      · rw [if_neg hc, if_neg (by omega)]
                case measure => simp [intOf]; omega
              · have hfin : Hid (∀ q, q ≤ d → R.getD q 0 = 48 + dg n (d - q)) := by
                  intro q hq
                  have h1 := hrel.out.2 q hq
                  split at h1
                  · rw [h1, HR.out.2 (d - q) (by omega)]
                  · rw [h1, HR.out.2 q (by omega), show d - q = q by omega]
                go_wp2_with (refine wp_bytesStr (o := ⟨some 84, _, _, _, _, _⟩) rfl 51 9 5 _ rfl Tryd.underlying51 Tryd.underlying5 Tryd.underlying9 (l := txt n) rfl (by rw [Ht.out]; simp) (fun q hq => ?_) ?_)
                · rw [hr.cell, List.getElem?_append_left (by rw [cel_length, hrel.out.1]; omega), Nat.zero_add, cel_at (by rw [hrel.out.1]; omega), Ht.out, List.getD_eq_getElem?_getD (l := List.map _ _), List.getElem?_map, List.getElem?_range (by omega), hfin.out q (by omega)]
                  rfl
                · go_wp2
                  go_ret2
                  exact ⟨rfl, hbw⟩
end Go.Proofs.YtbeocfiimminiaaDoor
