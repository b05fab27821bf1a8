/-
  The contracts of the reference's Order.
-/
import Derived.Test.YtbeocfiimminiaaDoorRefA
namespace Go.Proofs.YtbeocfiimminiaaDoor
open Go.RowKit
set_option linter.unusedVariables false

set_option maxHeartbeats 400000 in
theorem rorder_list (A B : Option Addr) (c d : Nat) (a b : List Nat) (w : World) (lo hi lo' hi' : Nat) (ha : Lo a) (hb : Lo b) (hal : a.length ≤ maxLen) (hbl : b.length ≤ maxLen) (hA : SV w lo hi A (cel .u32 a)) (hB : SV w lo' hi' B (cel .u32 b))
    (r : Int) (hr1 : a.length < b.length → r = -1) (hr2 : b.length < a.length → r = 1) (hr3 : a.length = b.length → r = sgn (val a) (val b)) :
    Calls Tryd.prog 57 #[.slice A a.length c, .slice B b.length d] w fun e w' => e = .returned (.int .i64 r) ∧ Dr w w' := by
  unfold maxLen at hal hbl
  have Ha := Lib.hid ha; clear ha
  have Hb := Lib.hid hb; clear hb
  have Hr3 := Lib.hid hr3; clear hr3
  rcases Nat.lt_trichotomy a.length b.length with h | h | h
  · have Hr := Lib.hid (hr1 h); clear hr1 hr2
    go_enter Tryd.func57, Tryd.ntmps57
    go_wp2
    go_ret
    exact ⟨ret_int Hr.out.symm, Dr.refl w⟩
  · have Hr := Lib.hid (Hr3.out h); clear hr1 hr2 Hr3
    have hne : (((a.length : Int)) != (b.length : Int)) = false := by simp [h]
    have H := Lib.hid h
    have h1 : a.length ≤ b.length := by omega
    have h2 : b.length ≤ a.length := by omega
    clear h
    go_enter Tryd.func57, Tryd.ntmps57
    go_wp2
    go_loopw [5] (fun i wr => ∃ k : Nat, k ≤ a.length ∧ i = .int .i64 ((k : Int) - 1) ∧ Dr w wr ∧ Hid (a.drop k = b.drop k)) (fun i _ => (intOf i + 1).toNat)
    case atStart => exact ⟨a.length, Nat.le_refl _, rfl, Dr.refl w, by rw [List.drop_length, H.out, List.drop_length]; rfl⟩
    case round =>
      obtain ⟨k, hk, rfl, ⟨n, rfl⟩, hd⟩ := hrel
      rcases k with _ | k
      · go_wp2
        go_ret
        refine ⟨ret_int ?_, (Dr.refl w).drewN n⟩
        have := hd.out
        simp only [List.drop_zero] at this
        rw [Hr.out, sgn_eq (by rw [this])]
      · obtain ⟨ba, oa, rfl, _, _, hca⟩ := hA (cel_ne hk)
        obtain ⟨bb, ob, rfl, _, _, hcb⟩ := hB (cel_ne (Nat.le_trans hk h1))
        obtain ⟨x, hx, hx0, hxc⟩ := cell_at (j := k) hca (by omega)
        obtain ⟨y, hy, hy0, hyc⟩ := cell_at (j := k) hcb (by omega)
        clear hca hcb
        rw [show (((k + 1 : Nat) : Int) - 1) = (k : Int) from by omega]
        go_wp2
        go_quiet (fail)
        go_wp2
        · go_ret
          refine ⟨ret_int ?_, ((Dr.refl w).drewN n).drewN _⟩
          have hlt : x < y := by assumption
          rw [Hr.out, sgn_lt (val_lt_at Ha.out Hb.out H.out (by omega) hd.out (by have := hx.out; have := hy.out; omega))]
        · go_quiet (fail)
          go_wp2
          · go_ret
            refine ⟨ret_int ?_, (((Dr.refl w).drewN n).drewN _).drewN _⟩
            have hlt : y < x := by assumption
            rw [Hr.out, sgn_gt (val_lt_at Hb.out Ha.out H.out.symm (by omega) hd.out.symm (by have := hx.out; have := hy.out; omega))]
          · go_roundw
            case rel =>
              have g1 : y ≤ x := by assumption
              have g2 : x ≤ y := by assumption
              exact ⟨k, by omega, rfl, ⟨_, rfl⟩, Lib.hid (drop_step H.out (by omega) hd.out (by have := hx.out; have := hy.out; omega))⟩
            case measure => simp [intOf]
  · have Hr := Lib.hid (hr2 h); clear hr1 hr2
    go_enter Tryd.func57, Tryd.ntmps57
    go_wp2
    go_ret
    exact ⟨ret_int Hr.out.symm, Dr.refl w⟩

theorem rorder_n {w : World} {va vb : Value} {x y lo hi lo' hi' : Nat} (ha : IsN w lo hi va x) (hb : IsN w lo' hi' vb y) :
    Calls Tryd.prog 57 #[va, vb] w fun e w' => e = .returned (.int .i64 (sgn x y)) ∧ Dr w w' := by
  have h1 := ha.length_le
  have h2 := hb.length_le
  obtain ⟨A, c, rfl, _, _, hA⟩ := ha
  obtain ⟨B, d, rfl, _, _, hB⟩ := hb
  refine rorder_list A B c d (lim x) (lim y) w _ _ _ _ (lo_lim x) (lo_lim y) h1 h2 hA hB _ ?_ ?_ ?_
  · intro h; exact sgn_lt (lim_len_of_lt h)
  · intro h; exact sgn_gt (lim_len_of_lt h)
  · intro _; rw [val_lim, val_lim]

end Go.Proofs.YtbeocfiimminiaaDoor
