/-
  Contracts of package simplex's first, fits and Check.
-/
import Derived.Test.YtblpaocignlpkaaGreatDoorCore07
import Derived.StillTailTactics
import Derived.OrdersIn
import Derived.TacticsIn
import Derived.RangeFuncNested
import Derived.RangeFuncBox
import Derived.RangeFuncBound
import Derived.RangeFuncCalls
import Derived.RangeFuncLeaves
import Derived.Shelf.Abstract
import Derived.Shelf.RegionOpen
import Derived.WalkKit
import Derived.OwnWalkIn
import Derived.TacticsInMore
import Derived.LoopNIn
import Derived.LoopIn
import Derived.Maps.AppendAt
import Derived.Laws.EntriesVeiled
namespace Go.Proofs.YtblpaocignlpkaaGreatDoor
open Go.RowKit
set_option linter.unusedVariables false
set_option maxHeartbeats 1000000 in
theorem first_three {w : World} {g : Nat} {x y z : Int} (h0 : w.cell? ⟨g, 0, none⟩ = some (.int .i64 x)) (h1 : w.cell? ⟨g, 1, none⟩ = some (.int .i64 y)) (h2 : w.cell? ⟨g, 2, none⟩ = some (.int .i64 z)) :
    Calls Tryz.prog 107 #[.slice (some ⟨g, 0, none⟩) 3 3] w fun e w' => e = .returned (.int .i64 (fstE [x, y, z])) ∧ w = w' := by
  have hc : Hid (∀ j e, [x, y, z][j]? = some e → w.cell? ⟨g, j, none⟩ = some (.int .i64 e)) := by
    intro j e hj
    match j, hj with
    | 0, hj => simp at hj; rw [← hj]; exact h0
    | 1, hj => simp at hj; rw [← hj]; exact h1
    | 2, hj => simp at hj; rw [← hj]; exact h2
  obtain ⟨l, hl⟩ : ∃ l, l = [x, y, z] := ⟨_, rfl⟩
  rw [← hl] at hc ⊢
  have hlen : Hid (l.length = 3) := by rw [hl]; rfl
  clear h0 h1 h2 hl
  go_enter Tryz.func107, Tryz.ntmps107
  go_wp2_with fail
  go_loop [7] (fun i => ∃ k : Nat, k ≤ 3 ∧ i = .int .i64 (k : Int) ∧ Hid (∀ j, j < k → l.getD j 0 = 0)) (fun i => 3 - (intOf i).toNat)
  case atStart => exact ⟨0, by omega, rfl, fun j hj => by omega⟩
  case round =>
    obtain ⟨k, hk, rfl, hrel⟩ := hrel
    rcases Nat.lt_or_ge k 3 with hlt | hge
    · obtain ⟨e, he⟩ := zcs (l := l) (j := k) (by rw [hlen.out]; exact hlt)
      have hck := hc.out k e he
      have He := Lib.hid he
      clear he
      by_cases he0 : e = 0
      · have e0 : (e != 0) = false := by rw [he0]; rfl
        have H0 := Lib.hid he0
        clear he0
        go_wp2_with fail
        go_round
        case rel =>
          refine ⟨k + 1, by omega, by go_num, fun j hj => ?_⟩
          rcases Nat.lt_or_ge j k with h | h
          · exact hrel.out j h
          · obtain rfl : j = k := by omega
            rw [List.getD_eq_getElem?_getD, He.out, H0.out]; rfl
        case measure => simp [intOf]; omega
      · have e0 : (e != 0) = true := bne_iff_ne.2 he0
        have Hfin : Hid (fstE l = e) := fstE_at hrel.out He.out he0
        clear he0
        go_wp2_with fail
        go_ret
        exact ⟨zar Hfin.out.symm, rfl⟩
    · obtain rfl : k = 3 := by omega
      have Hfin : Hid (fstE l = 0) := fstE_all (by rw [hlen.out]; exact hrel.out)
      go_wp2_with fail
      go_ret
      exact ⟨zar Hfin.out.symm, rfl⟩
theorem first_here (w : World) (x y z t : Int) (ht : t = fstE [x, y, z]) : Calls Tryz.prog 107 #[.slice (some ⟨w.heap.size, 0, none⟩) 3 3] (w.alloc (.cells #[.int .i64 x, .int .i64 y, .int .i64 z] 39)) fun e w' => e = .returned (.int .i64 t) ∧ Below w.heap.size w w' := by
  have h : Row (w.alloc (.cells #[.int .i64 x, .int .i64 y, .int .i64 z] 39)) w.heap.size 39 [.int .i64 x, .int .i64 y, .int .i64 z] := heap_alloc_new w _
  obtain ⟨h0, h1, h2⟩ := zad h
  rw [ht]
  refine (first_three h0 h1 h2).mono ?_
  rintro e w' ⟨he, rfl⟩
  exact ⟨he, zas _ _⟩
set_option maxHeartbeats 1000000 in
theorem fits_m {w : World} {v : Value} {m : List (List Raw)} {b c : Nat} (h : IsM w (Old w) v m) (hb : b ≤ 9223372036854775807) (hc : c ≤ 9223372036854775807) :
    Calls Tryz.prog 108 #[v, .int .i64 (b : Int), .int .i64 (c : Int)] w fun e w' => e = .returned (.int .i64 (fitE m b c)) ∧ w = w' := by
  have H := Lib.hid h
  obtain ⟨A, cA, rfl, hl⟩ := zdo h
  clear h
  by_cases h1 : m.length = b
  case neg =>
    have e1 : ((m.length : Int) != (b : Int)) = true := bne_iff_ne.2 (by omega)
    have Hr : Hid (fitE m b c = 10) := if_pos (.inl h1)
    clear h1
    go_enter Tryz.func108, Tryz.ntmps108
    go_wp2_with fail
    go_ret
    exact ⟨zar Hr.out.symm, rfl⟩
  have e1 : ((m.length : Int) != (b : Int)) = false := by rw [h1]; simp
  rcases Nat.eq_zero_or_pos b with h2 | h2
  · have Hr : Hid (fitE m b c = 0) := if_neg (by rintro (h | ⟨h, _⟩) <;> omega)
    have e2 : decide (0 < b) = false := decide_eq_false (by omega)
    have e3 : b < 1 := by omega
    clear h1 h2
    go_enter Tryz.func108, Tryz.ntmps108
    go_wp2_with fail
    go_ret
    exact ⟨zar Hr.out.symm, rfl⟩
  · have e2 : decide (0 < b) = true := decide_eq_true h2
    have hpos : 0 < m.length := by omega
    obtain ⟨row0, hrow0⟩ := zcs hpos
    obtain ⟨bb, off, P, kP, rfl, _, _, c0⟩ := zdp H.out hrow0
    rw [Nat.add_zero] at c0
    have hh : (m.headD []).length = row0.length := by
      cases m with
      | nil => simp at hpos
      | cons a t => simp at hrow0; rw [← hrow0]; rfl
    have H1 := Lib.hid h1
    have Hh := Lib.hid hh
    clear h1 hrow0 hh
    by_cases h3 : row0.length = c
    · have e3 : ((row0.length : Int) != (c : Int)) = false := by rw [h3]; simp
      have Hr : Hid (fitE m b c = 0) := if_neg (by rw [Hh.out, H1.out]; rintro (h | ⟨_, h⟩); exact h rfl; exact h h3)
      clear h3
      go_enter Tryz.func108, Tryz.ntmps108
      go_wp2_with fail
      go_ret
      exact ⟨zar Hr.out.symm, rfl⟩
    · have e3 : ((row0.length : Int) != (c : Int)) = true := bne_iff_ne.2 (by omega)
      have Hr : Hid (fitE m b c = 10) := if_pos (.inr ⟨h2, by rw [Hh.out]; exact h3⟩)
      clear h3
      go_enter Tryz.func108, Tryz.ntmps108
      go_wp2_with fail
      go_ret
      exact ⟨zar Hr.out.symm, rfl⟩
set_option maxRecDepth 100000 in
set_option maxHeartbeats 8000000 in
theorem pcheck {w : World} {v : Value} {p : Prog} (h : IsP w (Old w) v p) (hB : Bru w) : Calls Tryz.prog 53 #[v] w fun e w' => e = .returned (.int .i64 (chkP p)) ∧ Below w.heap.size w w' := by
  obtain ⟨A, a, B, b, C, c, rfl, hA, hB', hC⟩ := h
  have lA := (zdo hA).choose_spec.choose_spec.2
  have lB := (zau hB').choose_spec.choose_spec.2
  have lC := (zau hC).choose_spec.choose_spec.2
  obtain ⟨w0, hw0, hb0, rP, Hz⟩ := zbm w #[.slice A p.A.length a, .slice B p.B.length b, .slice C p.C.length c] 27
  have A_0 := Lib.hid (IsM.stb.next hA hb0)
  have B_0 := Lib.hid (IsV.stb.next hB' hb0)
  have C_0 := Lib.hid (IsV.stb.next hC hb0)
  have R_0 := Lib.hid (rP)
  have bw_0 := Lib.hid (hb0)
  have T_0 := Lib.hid (Bru.next hB hb0)
  clear hA hB' hC rP hb0 hB
  obtain ⟨cR0_1, cR1_1, cR2_1⟩ := zad R_0.out
  obtain ⟨x, hx⟩ : ∃ x, x = chkM p.A := ⟨_, rfl⟩
  obtain ⟨y, hy⟩ : ∃ y, y = chkV p.B := ⟨_, rfl⟩
  obtain ⟨z, hz⟩ : ∃ z, z = chkV p.C := ⟨_, rfl⟩
  obtain ⟨t, ht⟩ : ∃ t, t = fstE [x, y, z] := ⟨_, rfl⟩
  obtain ⟨u, hu⟩ : ∃ u, u = chkF p := ⟨_, rfl⟩
  have Hr : Hid (chkP p = if t ≠ 0 then t else u) := by rw [Hid, ht, hx, hy, hz, hu]; rfl
  have Hx := Lib.hid hx
  have Hy := Lib.hid hy
  have Hz2 := Lib.hid hz
  have Ht := Lib.hid ht
  have Hu := Lib.hid hu
  clear hx hy hz ht hu
  go_enter Tryz.func53, Tryz.ntmps53
  go_wp2_with fail
  clear hw0
  have A_1 := Lib.hid (IsM.stb.next A_0.out (zac _))
  have B_1 := Lib.hid (IsV.stb.next B_0.out (zac _))
  have C_1 := Lib.hid (IsV.stb.next C_0.out (zac _))
  have R_1 := Lib.hid (Row.next R_0.out (zac _))
  have bw_1 := Lib.hid (zaa bw_0.out (zac _))
  have T_1 := Lib.hid (Bru.next T_0.out (zac _))
  clear A_0 B_0 C_0 R_0 bw_0 T_0
  go_region_held3 (fun w' => w'.cell? ⟨w.heap.size, 0, none⟩ = some (.slice A p.A.length a) ∧ w'.cell? ⟨w.heap.size, 1, none⟩ = some (.slice B p.B.length b) ∧ w'.cell? ⟨w.heap.size, 2, none⟩ = some (.slice C p.C.length c))
    (first
      | exact ⟨cR0_1, cR1_1, cR2_1⟩
      | exact ⟨cR0_2, cR1_2, cR2_2⟩
      | exact ⟨cR0_3, cR1_3, cR2_3⟩
      | exact ⟨cR0_4, cR1_4, cR2_4⟩
      | exact ⟨cR0_5, cR1_5, cR2_5⟩
      | exact ⟨zab (zas _ _) cR0_1, zab (zas _ _) cR1_1, zab (zas _ _) cR2_1⟩
      | exact ⟨zab (zas _ _) cR0_2, zab (zas _ _) cR1_2, zab (zas _ _) cR2_2⟩
      | exact ⟨zab (zas _ _) cR0_3, zab (zas _ _) cR1_3, zab (zas _ _) cR2_3⟩
      | exact ⟨zab (zas _ _) cR0_4, zab (zas _ _) cR1_4, zab (zas _ _) cR2_4⟩
      | exact ⟨zab (zas _ _) cR0_5, zab (zas _ _) cR1_5, zab (zas _ _) cR2_5⟩)
    (first
      | (go_at_call 100; have hc := (show Calls Tryz.prog 100 #[.slice A p.A.length a] (World.drew w0) (fun e w' => e = .returned (.int .i64 x) ∧ Below (World.heap (World.drew w0)).size (World.drew w0) w') from by rw [Hx.out]; exact form_l A_1.out T_1.out); (with_reducible refine hc.mono ?_); clear hc; rintro e w1 ⟨rfl, hb⟩; have A_2 := Lib.hid (IsM.stb.next A_1.out (hb)); have B_2 := Lib.hid (IsV.stb.next B_1.out (hb)); have C_2 := Lib.hid (IsV.stb.next C_1.out (hb)); have R_2 := Lib.hid (Row.next R_1.out (hb)); have bw_2 := Lib.hid (zaa bw_1.out (hb)); have T_2 := Lib.hid (Bru.next T_1.out (hb)); clear A_1 B_1 C_1 R_1 bw_1 T_1; clear cR0_1 cR1_1 cR2_1; obtain ⟨cR0_2, cR1_2, cR2_2⟩ := zad R_2.out)
      | (go_at_call 33; have hc := (show Calls Tryz.prog 33 #[.slice B p.B.length b] w1 (fun e w' => e = .returned (.int .i64 y) ∧ Below (World.heap w1).size w1 w') from by rw [Hy.out]; exact zfj B_2.out T_2.out); (with_reducible refine hc.mono ?_); clear hc; rintro e w2 ⟨rfl, hb⟩; have A_3 := Lib.hid (IsM.stb.next A_2.out (hb)); have B_3 := Lib.hid (IsV.stb.next B_2.out (hb)); have C_3 := Lib.hid (IsV.stb.next C_2.out (hb)); have R_3 := Lib.hid (Row.next R_2.out (hb)); have bw_3 := Lib.hid (zaa bw_2.out (hb)); have T_3 := Lib.hid (Bru.next T_2.out (hb)); clear A_2 B_2 C_2 R_2 bw_2 T_2; clear cR0_2 cR1_2 cR2_2; obtain ⟨cR0_3, cR1_3, cR2_3⟩ := zad R_3.out)
      | (go_at_call 33; have hc := (show Calls Tryz.prog 33 #[.slice C p.C.length c] w2 (fun e w' => e = .returned (.int .i64 z) ∧ Below (World.heap w2).size w2 w') from by rw [Hz2.out]; exact zfj C_3.out T_3.out); (with_reducible refine hc.mono ?_); clear hc; rintro e w3 ⟨rfl, hb⟩; have A_4 := Lib.hid (IsM.stb.next A_3.out (hb)); have B_4 := Lib.hid (IsV.stb.next B_3.out (hb)); have C_4 := Lib.hid (IsV.stb.next C_3.out (hb)); have R_4 := Lib.hid (Row.next R_3.out (hb)); have bw_4 := Lib.hid (zaa bw_3.out (hb)); have T_4 := Lib.hid (Bru.next T_3.out (hb)); clear A_3 B_3 C_3 R_3 bw_3 T_3; clear cR0_3 cR1_3 cR2_3; obtain ⟨cR0_4, cR1_4, cR2_4⟩ := zad R_4.out)
      | (go_at_call 107; have hc := first_here w3 x y z t Ht.out; (with_reducible refine hc.mono ?_); clear hc; rintro e w4 ⟨rfl, hb⟩; have A_5 := Lib.hid (IsM.stb.next A_4.out (hb)); have B_5 := Lib.hid (IsV.stb.next B_4.out (hb)); have C_5 := Lib.hid (IsV.stb.next C_4.out (hb)); have R_5 := Lib.hid (Row.next R_4.out (hb)); have bw_5 := Lib.hid (zaa bw_4.out (hb)); have T_5 := Lib.hid (Bru.next T_4.out (hb)); clear A_4 B_4 C_4 R_4 bw_4 T_4; clear cR0_4 cR1_4 cR2_4; obtain ⟨cR0_5, cR1_5, cR2_5⟩ := zad R_5.out))
  by_cases ht0 : t = 0
  case neg =>
    have e0 : (t != 0) = true := bne_iff_ne.2 ht0
    have Hfin : Hid (chkP p = t) := by rw [Hid, Hr.out, if_pos ht0]
    clear ht0
    go_wp2_with fail
    go_ret
    exact ⟨zar Hfin.out.symm, bw_5.out⟩
  have e0 : (t != 0) = false := by rw [ht0]; rfl
  have Hfin : Hid (chkP p = u) := by rw [Hid, Hr.out, if_neg (by simp [ht0])]
  clear ht0
  go_wp2_with fail
  refine (show Calls Tryz.prog 108 #[.slice A p.A.length a, .int .i64 (p.B.length : Int), .int .i64 (p.C.length : Int)] w4 (fun e w' => e = .returned (.int .i64 u) ∧ w4 = w') from by rw [Hu.out]; exact fits_m A_5.out lB lC).mono ?_
  rintro e w5 ⟨rfl, rfl⟩
  go_wp2_with fail
  go_ret
  exact ⟨zar Hfin.out.symm, bw_5.out⟩
theorem rat_info : (Tryz.prog.info? 31).map (fun i => (i.zero, i.size, i.bytes)) = some (some (.agg #[.bool false, .slice none 0 0, .slice none 0 0]), 3, 56) := by kernel_rfl
theorem elR : ElN Tryz.prog 25 31 3 56 :=
  ⟨Tryz.underlying25, by obtain ⟨i, h1, h2, h3, h4⟩ := info_parts rat_info; exact ⟨i, _, h1, h2, h3, h4, rfl⟩, by omega⟩
def zda (l : List Raw) : Bool := l.any (·.neg)
theorem anyNeg_take {l : List Raw} (h : ∀ j, j < l.length → ∀ r, l[j]? = some r → r.neg = false) : zda l = false := by
  unfold zda
  rw [List.any_eq_false]
  intro r hr
  obtain ⟨j, hj, rfl⟩ := List.getElem_of_mem hr
  simp [h j hj _ (List.getElem?_eq_getElem hj)]
theorem anyNeg_at {l : List Raw} {j : Nat} {r : Raw} (h : l[j]? = some r) (hn : r.neg = true) : zda l = true := by
  unfold zda
  rw [List.any_eq_true]
  exact ⟨r, List.mem_of_getElem? h, hn⟩
set_option maxRecDepth 100000 in
set_option maxHeartbeats 1000000 in
theorem negative_l {w : World} {v : Value} {l : List Raw} (h : IsV w (Old w) v l) :
    Calls Tryz.prog 124 #[v] w fun e w' => e = .returned (.bool (zda l)) ∧ Below w.heap.size w w' := by
  have H := Lib.hid h
  obtain ⟨A, c, rfl, hl⟩ := zau h
  clear h
  go_enter Tryz.func124, Tryz.ntmps124
  go_wp2_with fail
  go_loopw [7] (fun i wr => ∃ k : Nat, k ≤ l.length ∧ i = .int .i64 (k : Int) ∧ Below w.heap.size w wr ∧ Hid (∀ j, j < k → ∀ r, l[j]? = some r → r.neg = false)) (fun i _ => l.length - (intOf i).toNat)
  case atStart => exact ⟨0, Nat.zero_le _, rfl, Below.refl _ _, fun j hj => by omega⟩
  case round =>
    obtain ⟨k, hk, rfl, hbw, hrel⟩ := hrel
    have Hbw := Lib.hid hbw
    have Hrel := Lib.hid hrel.out
    clear hrel
    rcases Nat.lt_or_ge k l.length with hlt | hge
    · obtain ⟨r, hr⟩ := zcs hlt
      obtain ⟨b, off, P, kP, Q, kQ, rfl, hSb, hel, c0, c1, c2⟩ := zdi (IsV.stb.next H.out hbw) hr
      have Hrr := Lib.hid hr
      have cr := zcm
      obtain ⟨s, hs⟩ : ∃ s, s = r.neg := ⟨_, rfl⟩
      rw [← hs] at c0
      have Hs := Lib.hid hs
      clear hel hr hbw hs
      cases s with
      | true =>
        have Hfin : Hid (zda l = true) := anyNeg_at Hrr.out Hs.out.symm
        go_wp2_with fail
        go_ret
        exact ⟨zdd Hfin.out.symm, zaa Hbw.out (zas _ _)⟩
      | false =>
        go_wp2_with fail
        go_roundw
        case rel =>
          refine ⟨k + 1, by omega, by go_num, zaa Hbw.out (zas _ _), fun j hj r' hr' => ?_⟩
          rcases Nat.lt_or_ge j k with h | h
          · exact Hrel.out j h r' hr'
          · obtain rfl : j = k := by omega
            rw [Hrr.out] at hr'
            cases hr'
            exact Hs.out.symm
        case measure => simp [intOf]; omega
    · obtain rfl : k = l.length := by omega
      have Hfin : Hid (zda l = false) := anyNeg_take Hrel.out
      clear hbw
      go_wp2_with fail
      go_ret
      exact ⟨zdd Hfin.out.symm, Hbw.out⟩
theorem zfl {l : List Rat} {j : Nat} (h : j < l.length) : ∃ q, l[j]? = some q ∧ (rawV l)[j]? = some (raw q) := ⟨l[j], List.getElem?_eq_getElem h, by simp [rawV, List.getElem?_eq_getElem h]⟩
theorem zcj {α : Type} {l : List α} {k : Nat} {x : α} (h : l[k]? = some x) : l.take (k + 1) = l.take k ++ [x] := by
  obtain ⟨hk, rfl⟩ := List.getElem?_eq_some_iff.1 h
  exact List.take_succ_eq_append_getElem hk
theorem isR_isQ {w : World} {S : Nat → Prop} {v : Value} {q : Rat} (h : IsR w S v (raw q)) : IsQ w S v q := h
set_option maxRecDepth 100000 in
set_option maxHeartbeats 1000000 in
theorem negatives_l {w : World} {v : Value} {l : List Rat} (h : IsV w (Old w) v (rawV l)) (hs : ∀ q ∈ l, Sz q 100000) (hlen : l.length ≤ 1000) :
    Calls Tryz.prog 71 #[v] w fun e w' => (∃ v', e = .returned v' ∧ IsV w' (New w.heap.size w') v' (rawV (l.map fun q => -q))) ∧ Below w.heap.size w w' := by
  have H := Lib.hid h
  have Hs := Lib.hid hs
  obtain ⟨A, c, rfl, hl⟩ := zau h
  have el : (rawV l).length = l.length := by simp [rawV]
  rw [el] at *
  clear h hs el
  go_enter Tryz.func71, Tryz.ntmps71
  go_wp2_with (at_make; refine wp_makeS elR rfl _ _ rfl IsR l.length rfl rfl rfl (by omega) (base := w.heap.size) (S := fun _ => False) (Nat.le_refl _) (fun _ h => False.elim h) ?_; intro v0 w1 hown0 hb1 hz1)
  go_loopw [3, 11] (fun v i wr => ∃ (k : Nat) (S : Nat → Prop), k ≤ l.length ∧ i = .int .i64 (k : Int) ∧ Below w.heap.size w wr ∧ OwnS 3 31 IsR wr w.heap.size S v (rawV ((l.take k).map fun q => -q)) ∧ Hid (∀ b, S b → w.heap.size ≤ b)) (fun _ i _ => l.length - (intOf i).toNat)
  case atStart => exact ⟨0, fun _ => False, Nat.zero_le _, rfl, hb1, by simpa [rawV] using hown0, fun _ h => False.elim h⟩
  case round =>
    obtain ⟨k, S, hk, rfl, hbw, hown, hS⟩ := hrel
    have Hbw := Lib.hid hbw
    clear hb1 hown0 hz1
    rcases Nat.lt_or_ge k l.length with hlt | hge
    · obtain ⟨q, hq, hr⟩ := zfl hlt
      obtain ⟨b, off, P, kP, Q, kQ, rfl, hSb, hel, c0, c1, c2⟩ := zdi (IsV.stb.next H.out hbw) hr
      have Hel := Lib.hid (isR_isQ hel)
      have Hq := Lib.hid hq
      have Hsq := Lib.hid (Hs.out q (List.mem_of_getElem? hq))
      have cr := zcm
      obtain ⟨p, hp⟩ : ∃ p, p = -q := ⟨_, rfl⟩
      have Hp := Lib.hid hp
      have Hown := Lib.hid hown
      clear hel hr hbw hq hp hown
      go_wp2_with fail
      refine (negative_q (IsQ.stb.next Hel.out (zas _ _)) Hsq.out Hp.out).mono ?_
      rintro e w2 ⟨⟨v2, rfl, hv2⟩, hb⟩
      have Hb2 := Lib.hid (zaa (zas _ _) hb)
      have Hv2 := Lib.hid hv2
      have Hbs := Lib.hid (zaa Hbw.out Hb2.out)
      have hbase : w.heap.size ≤ w2.heap.size := Hbs.out.size
      obtain ⟨s2, P2, k2, O2, l2, rfl, _, _, _⟩ := zan hv2
      have hown2 := OwnS.step IsR.stb (T := fun b => S b ∨ (wr.heap.size ≤ b ∧ b < w2.heap.size)) Hown.out Hb2.out (fun b h => .inl h) (fun b h => h)
      have hel2 := IsQ.stb.to Hv2.out (zat (T := fun b => S b ∨ (wr.heap.size ≤ b ∧ b < w2.heap.size)) fun b h => .inr ⟨by have := h.1; rw [World.size_alloc] at this; omega, h.2⟩)
      clear hb hv2
      go_wp2_with (at_builtin; refine wp_appS elR rfl _ _ rfl IsR.stb rfl rfl rfl hown2 hel2 rfl (by intro u hu; simp [Value.cells] at hu; rcases hu with rfl | rfl | rfl <;> rfl) (by simp [rawV]; omega) hbase ?_; intro v3 w3 hown3 hb3 hz3)
      go_roundw
      case rel =>
        refine ⟨k + 1, fun b => S b ∨ (wr.heap.size ≤ b ∧ b < w2.heap.size), by omega, by go_num, Hbs.out.trans hb3, ?_, fun b hb => ?_⟩
        · rw [zcj Hq.out, List.map_append, rawV, List.map_append]
          simp only [List.map_cons, List.map_nil]
          rw [← Hp.out]
          exact hown3
        · rcases hb with h | h
          · exact hS.out b h
          · have := Hbw.out.size; omega
      case measure => simp [intOf]; omega
    · obtain rfl : k = l.length := by omega
      have Hown := Lib.hid hown
      clear hown
      go_wp2_with fail
      go_ret
      refine ⟨⟨_, rfl, ?_⟩, Hbw.out⟩
      have h1 := OwnS.isS IsR.stb (T := New w.heap.size wr) Hown.out (fun b hb => ⟨hS.out b hb, by obtain ⟨_, _, _, _, h4⟩ := Hown.out; exact (h4 b hb).1⟩) (fun b h1 h2 => ⟨h1, h2⟩)
      rw [List.take_length] at h1
      exact h1
def colQ (m : List (List Rat)) (k : Nat) : List Rat := m.map fun row => row.getD k 0
theorem rawM_get {m : List (List Rat)} {j : Nat} (h : j < m.length) : ∃ row, m[j]? = some row ∧ (rawM m)[j]? = some (rawV row) := ⟨m[j], List.getElem?_eq_getElem h, by simp [rawM, List.getElem?_eq_getElem h]⟩
set_option maxRecDepth 100000 in
set_option maxHeartbeats 1000000 in
theorem column_l {w : World} {v : Value} {m : List (List Rat)} {k n : Nat} (h : IsM w (Old w) v (rawM m)) (hm : m.length ≤ 1000) (hr : ∀ row ∈ m, row.length = n) (hk : k < n) (hn : n ≤ 1000) :
    Calls Tryz.prog 66 #[v, .int .i64 (k : Int)] w fun e w' => (∃ v', e = .returned v' ∧ IsV w' (Old w') v' (rawV (colQ m k))) ∧ Below w.heap.size w w' := by
  have H := Lib.hid h
  have Hr := Lib.hid hr
  obtain ⟨A, c, rfl, hl⟩ := zdo h
  have el : (rawM m).length = m.length := by simp [rawM]
  rw [el] at *
  clear h hr el
  go_enter Tryz.func66, Tryz.ntmps66
  go_wp2_with (at_make; refine wp_makeS elR rfl _ _ rfl IsR m.length rfl rfl rfl (by omega) (base := w.heap.size) (S := Old w) (Nat.le_refl _) (fun _ h => h) ?_; intro v0 w1 hown0 hb1 hz1)
  go_loopw [5, 13] (fun v i wr => ∃ j : Nat, j ≤ m.length ∧ i = .int .i64 (j : Int) ∧ Below w.heap.size w wr ∧ OwnS 3 31 IsR wr w.heap.size (Old w) v (rawV (colQ (m.take j) k))) (fun _ i _ => m.length - (intOf i).toNat)
  case atStart => exact ⟨0, Nat.zero_le _, rfl, hb1, by simpa [rawV, colQ] using hown0⟩
  case round =>
    obtain ⟨j, hj, rfl, hbw, hown⟩ := hrel
    have Hbw := Lib.hid hbw
    clear hb1 hown0 hz1
    rcases Nat.lt_or_ge j m.length with hlt | hge
    · obtain ⟨row, hrow, hraw⟩ := rawM_get hlt
      obtain ⟨b, off, P, kP, rfl, hSb, hel, c0⟩ := zdp (IsM.stb.to H.out (zbq hbw fun b h => h)) hraw
      have hrl : row.length = n := Hr.out row (List.mem_of_getElem? hrow)
      obtain ⟨q, hq, hrq⟩ := zfl (l := row) (j := k) (by omega)
      obtain ⟨b2, off2, P2, kP2, Q2, kQ2, rfl, hSb2, hel2, d0, d1, d2⟩ := zdi hel hrq
      have er : (rawV row).length = row.length := by simp [rawV]
      have hkr : k < (rawV row).length := by omega
      have Hel2 := Lib.hid hel2
      have Hrow := Lib.hid hrow
      have Hq := Lib.hid hq
      have cr := zcm
      have Hown := Lib.hid hown
      have hbase : w.heap.size ≤ wr.heap.size := hbw.size
      clear hel hrow hraw hbw hq hrq hel2 hown er hrl
      go_wp2_with (at_builtin; refine wp_appS elR rfl _ _ rfl IsR.stb rfl rfl rfl Hown.out Hel2.out rfl (by intro u hu; simp [Value.cells] at hu; rcases hu with rfl | rfl | rfl <;> rfl) (by simp [rawV, colQ]; omega) hbase ?_; intro v3 w3 hown3 hb3 hz3)
      go_roundw
      case rel =>
        refine ⟨j + 1, by omega, by go_num, Hbw.out.trans hb3, ?_⟩
        rw [zcj Hrow.out, colQ, List.map_append, rawV, List.map_append]
        simp only [List.map_cons, List.map_nil]
        rw [List.getD_eq_getElem?_getD, Hq.out]
        exact hown3
      case measure => simp [intOf]; omega
    · obtain rfl : j = m.length := by omega
      have Hown := Lib.hid hown
      clear hown
      go_wp2_with fail
      go_ret
      refine ⟨⟨_, rfl, ?_⟩, Hbw.out⟩
      have h1 := OwnS.isS IsR.stb (T := Old wr) Hown.out (fun b hb => Nat.lt_of_lt_of_le hb Hbw.out.size) (fun b h1 h2 => h2)
      rw [List.take_length] at h1
      exact h1
end Go.Proofs.YtblpaocignlpkaaGreatDoor
namespace Go.Proofs.YtblpaocignlpkaaGreatDoor
section
variable {P : Program} {ops : Array Oper} {md : Region.Mode} {w : World} {m : Nat}
theorem wide_fn (f : FuncId) : Fence.wide.fn f := trivial
theorem wide_round : Fence.wide.round = none := rfl
theorem wpIn_of_still {o : Oper} {a : Act} {K : Act → Prop} {K' : Act → World → Prop} {Q' : Exit → Act → World → Prop} (h : ∀ a, K a → K' a w) (hh : o.still P a w K) : o.wpIn Fence.wide m P a w K' Q' := by
  refine ⟨fun f _ => wide_fn f, ?_⟩
  rw [wide_round, Oper.semAt_none]
  unfold Oper.still at hh
  generalize (execOp a.eval o).run P w = r at *
  cases r with
  | ok n w' =>
    cases n <;> simp only [Oper.stillUpon] at hh <;> simp only [Oper.uponIn]
    case enter f args =>
      obtain ⟨rfl, v, hc, hn⟩ := hh
      exact ⟨(fun h0 => by cases h0), callsIn_wide.2 (hc.mono fun e w'' ⟨he, hw⟩ => by subst he; subst hw; exact h _ hn)⟩
    all_goals (obtain ⟨rfl, h2⟩ := hh; exact h _ h2)
  | halt x w' => simp only [Oper.stillUpon] at hh
theorem wpOpIn_of_stOp {i : Nat} {a : Act} {K : Act → Prop} {K' : Act → World → Prop} {Q' : Exit → Act → World → Prop} (h : ∀ a, K a → K' a w) (hh : stOp P ops w i K a) : wpOpIn Fence.wide m P ops Q' i K' a w := by
  unfold stOp at hh
  unfold wpOpIn
  split
  · rename_i ho; simp only [ho] at hh; exact h _ hh
  · rename_i o ho
    simp only [ho] at hh
    split
    · rename_i hw; simp only [hw, if_true] at hh; exact wpIn_of_still h hh
    · rename_i hw; simp only [hw] at hh; exact ⟨fun f _ => wide_fn f, h _ hh⟩
theorem wpAnyIn_of_head {n g : Nat} {L : Array Bool → Act → Prop} {Q' : Exit → Act → World → Prop} (hL : ∀ listed a, L listed a → wpAnyIn Fence.wide m P md ops Q' g listed a w) :
    ∀ (f : Nat) (listed : Array Bool) (a : Act), wpAnyL P md ops w n L f listed a → wpAnyIn Fence.wide m P md ops Q' (f + g) listed a w
  | 0, listed, a, h => by rw [Nat.zero_add]; exact hL _ _ h
  | f + 1, listed, a, h => by
    rw [show f + 1 + g = (f + g) + 1 by omega]
    exact ⟨fun h0 => absurd h0 h.1, fun i hi => wpOpIn_of_stOp (fun a' h' => wpAnyIn_of_head hL f _ a' h') (h.2 i hi).2⟩
theorem wpAnyIn_of_seq {Q' : Exit → Act → World → Prop} : ∀ (l : List Oper) (k : Nat) (listed : Array Bool) (a : Act) (w : World), (∀ j, l[j]? = ops[k + j]?) →
    Region.seqB md ops l.length k listed = true → wpListIn Fence.wide m P ops Q' l a w → wpAnyIn Fence.wide m P md ops Q' l.length listed a w
  | [], _, _, _, _, _, hB, h => ⟨by simpa [Region.seqB] using hB, h⟩
  | o :: l, k, listed, a, w, hl, hB, h => by
    have h0 : ops[k]? = some o := by simpa using (hl 0).symm
    simp only [List.length_cons, Region.seqB, Bool.and_eq_true, decide_eq_true_eq] at hB
    refine ⟨fun h1 => (by rw [hB.1] at h1; cases h1), fun i hi => ?_⟩
    rw [hB.1] at hi
    have hik : i = k := by simpa using hi
    subst hik
    have hw : wpOpIn Fence.wide m P ops Q' i (wpListIn Fence.wide m P ops Q' l) a w := by unfold wpOpIn; simp only [h0]; exact h
    exact wpOpIn_mono (fun a' w' h' => wpAnyIn_of_seq l (i + 1) _ a' w' (fun j => by have := hl (j + 1); simpa [Nat.add_assoc, Nat.add_comm 1 j] using this) hB.2 h') hw
theorem zeb {id : Nat} {Q : Exit → Act → World → Prop} {a : Act} {w : World} {l : List Oper} (n : Nat) (hm : P.follows .mixedOrders = true) (hB : Region.lexTailB .any l.toArray n = true)
    (h : wpStill P l.toArray { w with drawn := w.drawn + 1 } (fun a' => wpListIn Fence.wide m P l.toArray Q (l.drop n) a' { w with drawn := w.drawn + 1 }) (l.take n) a) : (Code.region id l.toArray true).wpIn Fence.wide m P Q a w := by
  simp only [Region.lexTailB, Bool.and_eq_true, decide_eq_true_eq] at hB
  obtain ⟨⟨⟨⟨hsel, hn⟩, hs⟩, hc⟩, hlex⟩ := hB
  have hn' : n < l.length := by simpa using hn
  have htl : (l.take n).length = n := by simp; omega
  have hdl : (l.drop n).length = l.toArray.size - n := by simp
  have inv0 : HeadInv .any l.toArray n (Array.replicate l.toArray.size false) :=
    ⟨by simp, fun j oj _ hl => (by rw [getD_replicate_false] at hl; cases hl), fun t _ ht => getD_in (by simpa using ht) (getD_replicate_false _ _)⟩
  have H := wpAnyL_lex (md := .any) (g := l.toArray.size - n) hsel hs hc hn (l.take n) 0 _ a (fun j hj => by
    have hj' : j < n := by rw [htl] at hj; exact hj
    simp [hj']) (by simpa using htl) inv0 (by rw [htl]; exact hlex) h
  refine wpIn_region_any hm ?_
  have := wpAnyIn_of_head (m := m) (Q' := Q) (g := l.toArray.size - n) (fun listed a' hL => by
    have := wpAnyIn_of_seq (m := m) (md := .any) (Q' := Q) (l.drop n) n listed a' { w with drawn := w.drawn + 1 } (fun j => by simp [List.getElem?_drop]) (by rw [hdl]; exact hL.1) hL.2
    rwa [hdl] at this) _ _ _ H
  rw [htl, show n + (l.toArray.size - n) = l.toArray.size by omega] at this
  exact this
end
end Go.Proofs.YtblpaocignlpkaaGreatDoor
namespace Go.Proofs.YtblpaocignlpkaaGreatDoor
open Go.RowKit Go.Shelf
attribute [local go_sem] Oper.semAt_some
set_option linter.unusedVariables false
abbrev S3 := Option Addr × Nat × Nat
abbrev Q3 := Bool × S3 × S3
def q3 (x : Q3) : Value := .agg #[.bool x.1, .slice x.2.1.1 x.2.1.2.1 x.2.1.2.2, .slice x.2.2.1 x.2.2.2.1 x.2.2.2.2]
theorem boxed_putZ {W : World} {B l : Nat} {t : TypeId} {v : Value} {o o' : Obj} (h : Boxed W B t v) (hl : W.heap[l]? = some o) (ho : o.isCells = false) : Boxed (W.putObj l o') B t v := by
  refine h.kept (grownBy_putObj' W l o') (fun e => ?_)
  obtain rfl : B = l := by simpa using e
  rw [show W.heap[B]? = _ from h] at hl
  cases hl
  cases ho
theorem keepN {w w' : World} {n b o : Nat} {v : Value} (hb : Below n w w') (hn : b < n) (h : w.cell? ⟨b, o, none⟩ = some v) : w'.cell? ⟨b, o, none⟩ = some v := (hb.cell (p := ⟨b, o, none⟩) hn).trans h
def Els3 (w : World) (n₀ : Nat) (A : Option Addr) (es : List Q3) : Prop := ∀ (j : Nat) (e : Q3), es[j]? = some e → ∃ b off, A = some ⟨b, off, none⟩ ∧ b < n₀ ∧
  w.cell? ⟨b, off + j * 3, none⟩ = some (.bool e.1) ∧ w.cell? ⟨b, off + j * 3 + 1, none⟩ = some (.slice e.2.1.1 e.2.1.2.1 e.2.1.2.2) ∧ w.cell? ⟨b, off + j * 3 + 2, none⟩ = some (.slice e.2.2.1 e.2.2.2.1 e.2.2.2.2)
def Els1 (w : World) (n₀ : Nat) (A : Option Addr) (es : List Value) : Prop := ∀ (j : Nat) (e : Value), es[j]? = some e → ∃ b off, A = some ⟨b, off, none⟩ ∧ b < n₀ ∧ w.cell? ⟨b, off + j, none⟩ = some e
theorem Els3.below {w w' : World} {n₀ : Nat} {A : Option Addr} {es : List Q3} (h : Els3 w n₀ A es) (hb : Below w.heap.size w w') (hn : n₀ ≤ w.heap.size) : Els3 w' n₀ A es := fun j e he => by
  obtain ⟨b, off, h1, h2, h4, h5, h6⟩ := h j e he
  exact ⟨b, off, h1, h2, keepN hb (by omega) h4, keepN hb (by omega) h5, keepN hb (by omega) h6⟩
theorem Els1.below {w w' : World} {n₀ : Nat} {A : Option Addr} {es : List Value} (h : Els1 w n₀ A es) (hb : Below w.heap.size w w') (hn : n₀ ≤ w.heap.size) : Els1 w' n₀ A es := fun j e he => by
  obtain ⟨b, off, h1, h2, h4⟩ := h j e he
  exact ⟨b, off, h1, h2, keepN hb (by omega) h4⟩
theorem exists_q3 {es : List Value} : (∀ (j : Nat) (e : Value), es[j]? = some e → ∃ x, e = q3 x) → ∃ l : List Q3, l.map q3 = es := by
  induction es with
  | nil => exact fun _ => ⟨[], rfl⟩
  | cons e es ih =>
    intro h
    obtain ⟨x, rfl⟩ := h 0 e rfl
    obtain ⟨l, rfl⟩ := ih fun j e he => h (j + 1) e he
    exact ⟨x :: l, rfl⟩
theorem isV_els {w : World} {A : Option Addr} {n c : Nat} {l : List Raw} (h : IsV w (Old w) (.slice A n c) l) : ∃ es, Els3 w w.heap.size A es ∧ es.length = l.length ∧ All2 (fun x r => IsR w (Old w) (q3 x) r) es l := by
  have h0 := h
  obtain ⟨A', c', es, hv, h1, h2, h3, h4, h5⟩ := h
  simp only [Value.slice.injEq] at hv
  obtain ⟨rfl, rfl, rfl⟩ := hv
  have hform : ∀ (j : Nat) (e : Value), es[j]? = some e → ∃ x, e = q3 x := fun j e he => by
    have hj : j < l.length := by rw [← h5.1]; exact (List.getElem?_eq_some_iff.1 he).1
    obtain ⟨P, k, Q, d, rfl, _, _⟩ := h5.2 j e _ he (List.getElem?_eq_getElem hj)
    exact ⟨(_, (_, _, _), (_, _, _)), rfl⟩
  obtain ⟨es', rfl⟩ := exists_q3 hform
  have hget : ∀ {j : Nat} {x : Q3}, es'[j]? = some x → (es'.map q3)[j]? = some (q3 x) := fun hx => by rw [List.getElem?_map, hx]; rfl
  refine ⟨es', fun j e he => ?_, by rw [← h5.1, List.length_map], by rw [← h5.1, List.length_map], fun j x y hx hy => h5.2 j _ _ (hget hx) hy⟩
  have he' := hget he
  have hne : cellsOf (es'.map q3) ≠ [] := by
    intro h0
    have hl := zdk h4
    rw [h0] at hl
    have hj := (List.getElem?_eq_some_iff.1 he').1
    simp at hl
    simp at hj
    omega
  obtain ⟨b, off, hA, hS, hc⟩ := h3 hne
  exact ⟨b, off, hA, hS, hc _ _ (zfa h4 (i := 0) he' rfl), hc _ _ (zfa h4 (i := 1) he' rfl), hc _ _ (zfa h4 (i := 2) he' rfl)⟩
theorem isM_els {w : World} {A : Option Addr} {n c : Nat} {m : List (List Raw)} (h : IsM w (Old w) (.slice A n c) m) : ∃ es, Els1 w w.heap.size A es ∧ es.length = m.length ∧ All2 (IsV w (Old w)) es m := by
  have h0 := h
  obtain ⟨A', c', es, hv, h1, h2, h3, h4, h5⟩ := h
  simp only [Value.slice.injEq] at hv
  obtain ⟨rfl, rfl, rfl⟩ := hv
  refine ⟨es, fun j e he => ?_, h5.1, h5⟩
  have hj : j < m.length := by rw [← h5.1]; exact (List.getElem?_eq_some_iff.1 he).1
  have hr := h5.2 j e _ he (List.getElem?_eq_getElem hj)
  obtain ⟨P, k, es', rfl, _⟩ := hr
  have hne : cellsOf es ≠ [] := by
    intro h0
    have hl := zdk h4
    rw [h0] at hl
    have := h5.1
    simp at hl
    omega
  obtain ⟨b, off, hA, hS, hc⟩ := h3 hne
  refine ⟨b, off, hA, hS, ?_⟩
  have := hc _ _ (zfa h4 (i := 0) he rfl)
  rw [Nat.mul_one, Nat.add_zero] at this
  exact this
def KpZQ (n₀ B : Nat) (va vb : Value) (W W' : World) : Prop :=
  Below n₀ W W' ∧ (Boxed W B 24 va → Boxed W' B 24 va) ∧ (Boxed W (B + 1) 24 vb → Boxed W' (B + 1) 24 vb)
theorem kpzq_t {n₀ B : Nat} {va vb : Value} {X Y Z : World} (h : KpZQ n₀ B va vb X Y) (k : KpZQ n₀ B va vb Y Z) : KpZQ n₀ B va vb X Z :=
  ⟨h.1.trans k.1, fun x => k.2.1 (h.2.1 x), fun x => k.2.2 (h.2.2 x)⟩
theorem kpzq_b {n₀ B : Nat} {va vb : Value} {w : World} (hn : n₀ ≤ w.heap.size) (W : World) (l : Nat) (o o' : Obj) (hl : w.heap.size ≤ l) (h : W.heap[l]? = some o) (h1 : o.isCells = false) (h2 : o.isWalk = false) : KpZQ n₀ B va vb W (W.putObj l o') :=
  ⟨belowK_b hn W l o o' hl h h1 h2, fun x => boxed_putZ x h h1, fun x => boxed_putZ x h h1⟩
theorem kpzq_refl {n₀ B : Nat} {va vb : Value} (W : World) : KpZQ n₀ B va vb W W := ⟨Below.refl _ _, id, id⟩
theorem kpzq_drew {n₀ B : Nat} {va vb : Value} {X Y : World} (h : KpZQ n₀ B va vb X Y) : KpZQ n₀ B va vb X Y.drew := ⟨below_drewN h.1 1, h.2.1, h.2.2⟩
theorem kpzq_of {n₀ B : Nat} {va vb : Value} {W W' : World} (h : Below W.heap.size W W') (hn : n₀ ≤ W.heap.size) : KpZQ n₀ B va vb W W' :=
  ⟨h.mono hn, fun x => (h.block _ x.lt).trans x, fun x => (h.block _ x.lt).trans x⟩
set_option maxRecDepth 100000 in
set_option maxHeartbeats 2000000 in
theorem zipq_seq {α : Type} (f g : α → Q3) (z : List α) (n : Nat) (hn : 1 ≤ n) (n₀ B : Nat) (A A' : Option Addr) (c c' M : Nat) (hz : z.length = M) (hMc : M ≤ 1000) (w : World) (hB : B + 1 < w.heap.size)
    (h1 : Boxed w B 24 (.slice A M c)) (h2 : Boxed w (B + 1) 24 (.slice A' M c')) (hA : Els3 w n₀ A (z.map f)) (hA2 : Els3 w n₀ A' (z.map g)) (hn₀ : n₀ ≤ w.heap.size) :
    SeqStopsK Fence.wide n Tryz.prog 149 #[.pointer (some ⟨B, 0, none⟩), .pointer (some ⟨B + 1, 0, none⟩)] (fun x => #[q3 (f x), q3 (g x)]) (KpZQ n₀ B (.slice A M c) (.slice A' M c')) (fun xs => xs = z) (fun _ => True) M w := fun l J Jx W hW hJ _ hY h0 => by
  have g1 : Boxed W B 24 (.slice A M c) := (hW.block B (by omega)).trans h1
  have g2 : Boxed W (B + 1) 24 (.slice A' M c') := (hW.block (B + 1) (by omega)).trans h2
  have HA := Lib.hid (hA.below hW hn₀)
  have HB := Lib.hid (hA2.below hW hn₀)
  have hc1 := g1.cell
  have hc2 := g2.cell
  have HJ := Lib.hid hJ
  have HY := Lib.hid hY
  have HG := Lib.hid (And.intro g1 g2)
  have Hz := Lib.hid hz
  clear hJ hY g1 g2 h1 h2 hA hA2 hz
  refine callsIn_of_wp Tryz.func149 rfl trivial ?_ rfl
  simp only [Tryz.ntmps149, List.size_toArray, List.length_cons, List.length_nil, Nat.reduceAdd, Nat.reduceSub, Array.replicate_succ, Array.replicate_zero, List.push_toArray, List.append_toArray, List.nil_append, List.cons_append]
  gi_wp2
  gi_loopw [10] (fun i wr => ∃ k : Nat, k ≤ M ∧ i = .int .i64 k ∧ J (z.take k) wr ∧ KpZQ n₀ B (.slice A M c) (.slice A' M c') W wr) (fun i _ => M - (intOf i).toNat)
  case atStart => exact ⟨0, Nat.zero_le _, rfl, h0, kpzq_refl _⟩
  case round =>
    obtain ⟨k, hk, rfl, hJs, hK⟩ := hrel
    clear hc1 hc2
    by_cases hlt : k < M
    · obtain ⟨x, hx⟩ := zcs (l := z) (j := k) (by rw [Hz.out]; exact hlt)
      obtain ⟨b1, o1, rfl, hb1, c0, c1, c2⟩ := HA.out k (f x) (by rw [List.getElem?_map, hx]; rfl)
      obtain ⟨b2, o2, rfl, hb2, d0, d1, d2⟩ := HB.out k (g x) (by rw [List.getElem?_map, hx]; rfl)
      have hlen : (z.take k).length < M := by rw [List.length_take, Hz.out]; omega
      obtain ⟨fn, tmps, assign, body, hyy, hR⟩ := HY.out _ x wr.drew (HJ.out _ _ _ none hJs ⟨rfl, rfl, rfl, Nat.le_refl _, fun _ _ _ => rfl⟩ (fun r e => by cases e)) hlen
      have hk1 := (hK.2.1 HG.out.1).cell
      have hk2 := (hK.2.2 HG.out.2).cell
      have hstep : Hid (z.take (k + 1) = z.take k ++ [x]) := zcj hx
      have Hx := Lib.hid hx
      generalize f x = x0 at *
      generalize g x = y0 at *
      obtain ⟨x0, ⟨x1, x2, x3⟩, ⟨x4, x5, x6⟩⟩ := x0
      obtain ⟨y0, ⟨y1, y2, y3⟩, ⟨y4, y5, y6⟩⟩ := y0
      dsimp only [q3] at hyy c0 c1 c2 d0 d1 d2
      have f0 := keepN hK.1 hb1 c0
      have f1 := keepN hK.1 hb1 c1
      have f2 := keepN hK.1 hb1 c2
      have e0 := keepN hK.1 hb2 d0
      have e1 := keepN hK.1 hb2 d1
      have e2 := keepN hK.1 hb2 d2
      have cr := zcm
      clear hx c0 c1 c2 d0 d1 d2
      gi_wp2
      refine zeb 9 (by kernel_rfl) (by kernel_rfl) ?_
      change wpStill _ _ wr.drew _ _ _
      simp only [List.take_succ_cons, List.take_zero, List.drop_succ_cons, List.drop_zero]
      still_step
      still_step
      still_step
      still_step
      still_step
      still_step
      still_step
      still_step
      still_step
      refine wpStill_nil ?_
      gi_wp2
      refine hR.mono ?_
      rintro e W3 (⟨rfl, hJ3, hk3⟩ | ⟨rfl, hJx3⟩)
      · gi_wp2
        go_roundw
        case rel => exact ⟨k + 1, by omega, by go_num, by rw [hstep.out]; exact hJ3, kpzq_t (kpzq_drew hK) hk3⟩
        case measure => simp [intOf]; omega
      · gi_wp2
        refine bodyPost_ret (results_none rfl _ _ _) rfl ?_
        exact ⟨⟨_, rfl⟩, .inr ⟨_, trivial, hJx3⟩⟩
    · obtain rfl : k = M := by omega
      gi_wp2
      go_end0
      exact ⟨⟨_, rfl⟩, .inl ⟨_, (List.take_of_length_le (by rw [Hz.out]; omega)), hJs⟩⟩
set_option maxHeartbeats 1000000 in
theorem zipq_n (w : World) (A B : Option Addr) (a b c d : Nat) :
    Calls Tryz.prog 117 #[.slice A a c, .slice B b d] w fun e w' => e = .returned (.func (.func 149) #[] #[.pointer (some ⟨w.heap.size, 0, none⟩), .pointer (some ⟨w.heap.size + 1, 0, none⟩)]) ∧
      Below w.heap.size w w' ∧ Boxed w' w.heap.size 24 (.slice A a c) ∧ Boxed w' (w.heap.size + 1) 24 (.slice B b d) ∧ w'.heap.size = w.heap.size + 2 := by
  go_enter Tryz.func117, Tryz.ntmps117
  go_wp2
  go_ret
  have b1 := (Boxed.new w 24 (.slice A a c)).alloc (.cells #[.slice B b d] 24)
  have b2 := Boxed.new (w.alloc (.cells #[.slice A a c] 24)) 24 (.slice B b d)
  rw [World.size_alloc] at b2
  exact ⟨rfl, ((Below.refl _ w).alloc (Nat.le_refl _) _).alloc (by simp) _, b1, b2, by simp only [World.size_alloc]⟩
def KpZV (n₀ B : Nat) (va vb : Value) (W W' : World) : Prop :=
  Below n₀ W W' ∧ (Boxed W B 22 va → Boxed W' B 22 va) ∧ (Boxed W (B + 1) 24 vb → Boxed W' (B + 1) 24 vb)
theorem kpzv_t {n₀ B : Nat} {va vb : Value} {X Y Z : World} (h : KpZV n₀ B va vb X Y) (k : KpZV n₀ B va vb Y Z) : KpZV n₀ B va vb X Z :=
  ⟨h.1.trans k.1, fun x => k.2.1 (h.2.1 x), fun x => k.2.2 (h.2.2 x)⟩
theorem kpzv_b {n₀ B : Nat} {va vb : Value} {w : World} (hn : n₀ ≤ w.heap.size) (W : World) (l : Nat) (o o' : Obj) (hl : w.heap.size ≤ l) (h : W.heap[l]? = some o) (h1 : o.isCells = false) (h2 : o.isWalk = false) : KpZV n₀ B va vb W (W.putObj l o') :=
  ⟨belowK_b hn W l o o' hl h h1 h2, fun x => boxed_putZ x h h1, fun x => boxed_putZ x h h1⟩
theorem kpzv_refl {n₀ B : Nat} {va vb : Value} (W : World) : KpZV n₀ B va vb W W := ⟨Below.refl _ _, id, id⟩
theorem kpzv_drew {n₀ B : Nat} {va vb : Value} {X Y : World} (h : KpZV n₀ B va vb X Y) : KpZV n₀ B va vb X Y.drew := ⟨below_drewN h.1 1, h.2.1, h.2.2⟩
theorem kpzv_of {n₀ B : Nat} {va vb : Value} {W W' : World} (h : Below W.heap.size W W') (hn : n₀ ≤ W.heap.size) : KpZV n₀ B va vb W W' :=
  ⟨h.mono hn, fun x => (h.block _ x.lt).trans x, fun x => (h.block _ x.lt).trans x⟩
set_option maxRecDepth 100000 in
set_option maxHeartbeats 2000000 in
theorem zipv_seq {α : Type} (f : α → Value) (g : α → Q3) (z : List α) (n : Nat) (hn : 1 ≤ n) (n₀ B : Nat) (A A' : Option Addr) (c c' M : Nat) (hz : z.length = M) (hMc : M ≤ 1000) (w : World) (hB : B + 1 < w.heap.size)
    (h1 : Boxed w B 22 (.slice A M c)) (h2 : Boxed w (B + 1) 24 (.slice A' M c')) (hA : Els1 w n₀ A (z.map f)) (hA2 : Els3 w n₀ A' (z.map g)) (hn₀ : n₀ ≤ w.heap.size) :
    SeqStopsK Fence.wide n Tryz.prog 151 #[.pointer (some ⟨B, 0, none⟩), .pointer (some ⟨B + 1, 0, none⟩)] (fun x => #[f x, q3 (g x)]) (KpZV n₀ B (.slice A M c) (.slice A' M c')) (fun xs => xs = z) (fun pre => ∃ k, pre = z.take k) M w := fun l J Jx W hW hJ _ hY h0 => by
  have g1 : Boxed W B 22 (.slice A M c) := (hW.block B (by omega)).trans h1
  have g2 : Boxed W (B + 1) 24 (.slice A' M c') := (hW.block (B + 1) (by omega)).trans h2
  have HA := Lib.hid (hA.below hW hn₀)
  have HB := Lib.hid (hA2.below hW hn₀)
  have hc1 := g1.cell
  have hc2 := g2.cell
  have HJ := Lib.hid hJ
  have HY := Lib.hid hY
  have HG := Lib.hid (And.intro g1 g2)
  have Hz := Lib.hid hz
  clear hJ hY g1 g2 h1 h2 hA hA2 hz
  refine callsIn_of_wp Tryz.func151 rfl trivial ?_ rfl
  simp only [Tryz.ntmps151, List.size_toArray, List.length_cons, List.length_nil, Nat.reduceAdd, Nat.reduceSub, Array.replicate_succ, Array.replicate_zero, List.push_toArray, List.append_toArray, List.nil_append, List.cons_append]
  gi_wp2
  gi_loopw [10] (fun i wr => ∃ k : Nat, k ≤ M ∧ i = .int .i64 k ∧ J (z.take k) wr ∧ KpZV n₀ B (.slice A M c) (.slice A' M c') W wr) (fun i _ => M - (intOf i).toNat)
  case atStart => exact ⟨0, Nat.zero_le _, rfl, h0, kpzv_refl _⟩
  case round =>
    obtain ⟨k, hk, rfl, hJs, hK⟩ := hrel
    clear hc1 hc2
    by_cases hlt : k < M
    · obtain ⟨x, hx⟩ := zcs (l := z) (j := k) (by rw [Hz.out]; exact hlt)
      obtain ⟨b1, o1, rfl, hb1, c0⟩ := HA.out k (f x) (by rw [List.getElem?_map, hx]; rfl)
      obtain ⟨b2, o2, rfl, hb2, d0, d1, d2⟩ := HB.out k (g x) (by rw [List.getElem?_map, hx]; rfl)
      have hlen : (z.take k).length < M := by rw [List.length_take, Hz.out]; omega
      obtain ⟨fn, tmps, assign, body, hyy, hR⟩ := HY.out _ x wr.drew (HJ.out _ _ _ none hJs ⟨rfl, rfl, rfl, Nat.le_refl _, fun _ _ _ => rfl⟩ (fun r e => by cases e)) hlen
      have hk1 := (hK.2.1 HG.out.1).cell
      have hk2 := (hK.2.2 HG.out.2).cell
      have hstep : Hid (z.take (k + 1) = z.take k ++ [x]) := zcj hx
      have Hx := Lib.hid hx
      generalize f x = x0 at *
      generalize g x = y0 at *
      obtain ⟨y0, ⟨y1, y2, y3⟩, ⟨y4, y5, y6⟩⟩ := y0
      dsimp only [q3] at hyy d0 d1 d2
      have f0 := keepN hK.1 hb1 c0
      have e0 := keepN hK.1 hb2 d0
      have e1 := keepN hK.1 hb2 d1
      have e2 := keepN hK.1 hb2 d2
      have cr := zcm
      clear hx c0 d0 d1 d2
      gi_wp2
      refine zeb 9 (by kernel_rfl) (by kernel_rfl) ?_
      change wpStill _ _ wr.drew _ _ _
      simp only [List.take_succ_cons, List.take_zero, List.drop_succ_cons, List.drop_zero]
      still_step
      still_step
      still_step
      still_step
      still_step
      still_step
      still_step
      still_step
      still_step
      refine wpStill_nil ?_
      gi_wp2
      refine hR.mono ?_
      rintro e W3 (⟨rfl, hJ3, hk3⟩ | ⟨rfl, hJx3⟩)
      · gi_wp2
        go_roundw
        case rel => exact ⟨k + 1, by omega, by go_num, by rw [hstep.out]; exact hJ3, kpzv_t (kpzv_drew hK) hk3⟩
        case measure => simp [intOf]; omega
      · gi_wp2
        refine bodyPost_ret (results_none rfl _ _ _) rfl ?_
        exact ⟨⟨_, rfl⟩, .inr ⟨_, ⟨k + 1, hstep.out.symm⟩, hJx3⟩⟩
    · obtain rfl : k = M := by omega
      gi_wp2
      go_end0
      exact ⟨⟨_, rfl⟩, .inl ⟨_, (List.take_of_length_le (by rw [Hz.out]; omega)), hJs⟩⟩
set_option maxHeartbeats 1000000 in
theorem zipv_n (w : World) (A B : Option Addr) (a b c d : Nat) :
    Calls Tryz.prog 123 #[.slice A a c, .slice B b d] w fun e w' => e = .returned (.func (.func 151) #[] #[.pointer (some ⟨w.heap.size, 0, none⟩), .pointer (some ⟨w.heap.size + 1, 0, none⟩)]) ∧
      Below w.heap.size w w' ∧ Boxed w' w.heap.size 22 (.slice A a c) ∧ Boxed w' (w.heap.size + 1) 24 (.slice B b d) ∧ w'.heap.size = w.heap.size + 2 := by
  go_enter Tryz.func123, Tryz.ntmps123
  go_wp2
  go_ret
  have b1 := (Boxed.new w 22 (.slice A a c)).alloc (.cells #[.slice B b d] 24)
  have b2 := Boxed.new (w.alloc (.cells #[.slice A a c] 22)) 24 (.slice B b d)
  rw [World.size_alloc] at b2
  exact ⟨rfl, ((Below.refl _ w).alloc (Nat.le_refl _) _).alloc (by simp) _, b1, b2, by simp only [World.size_alloc]⟩
end Go.Proofs.YtblpaocignlpkaaGreatDoor
namespace Go.Proofs.YtblpaocignlpkaaGreatDoor
open Go.RowKit
set_option linter.unusedVariables false
theorem words_i (w : World) (neg : Bool) (n d : Int) (q : Rat) (hB : Bru w) (hn0 : 1 ≤ n) (hd0 : 1 ≤ d) (hn : n ≤ 18446744073709551615) (hd : d ≤ 18446744073709551615) (hq : q = mkRat (sg neg n.toNat) d.toNat) :
    Calls Tryz.prog 142 #[.bool neg, .int .u64 n, .int .u64 d] w (RetQ w q) := by
  obtain ⟨m, rfl⟩ := Int.eq_ofNat_of_zero_le (by omega : 0 ≤ n)
  obtain ⟨k, rfl⟩ := Int.eq_ofNat_of_zero_le (by omega : 0 ≤ d)
  rw [hq]
  exact words_q w neg m k hB (by omega) (by omega) (by omega) (by omega)
theorem prod_limb {x y : Int} (hx : 1 ≤ x) (hx9 : x ≤ 999999999) (hy : 1 ≤ y) (hy9 : y ≤ 999999999) : 1 ≤ x * y ∧ x * y ≤ 999999998000000001 := by
  refine ⟨?_, (zci (by omega) hx9 (by omega) hy9).2⟩
  have := Int.mul_le_mul hx hy (by omega) (by omega)
  omega
set_option maxRecDepth 100000 in
set_option maxHeartbeats 1000000 in
theorem plusWords_q {w : World} {va vb : Value} {qa qb qc : Rat} (ha : IsQ w (Old w) va qa) (hb : IsQ w (Old w) vb qb) (hB : Bru w) (h1 : OneL qa qb) (hc : qc = qa + qb) : Calls Tryz.prog 137 #[va, vb] w (RetQ w qc) := by
  have HQa := Lib.hid ha
  obtain ⟨nega, Aa, cAa, Ba, cBa, rfl, Hnega, Hna, Hda⟩ := zan ha
  have HQb := Lib.hid hb
  obtain ⟨negb, Ab, cAb, Bb, cBb, rfl, Hnegb, Hnb, Hdb⟩ := zan hb
  obtain ⟨l1, l2, l3, l4⟩ := h1
  obtain ⟨b1, o1, rfl, u1, g1, s1⟩ := zdm Hna.out l1
  obtain ⟨b2, o2, rfl, u2, g2, s2⟩ := zdm Hda.out l2
  obtain ⟨b3, o3, rfl, u3, g3, s3⟩ := zdm Hnb.out l3
  obtain ⟨b4, o4, rfl, u4, g4, s4⟩ := zdm Hdb.out l4
  have hover := @plus_over qa qb nega negb
  have Hov : Hid (∀ (neg : Bool) (n : Nat), sg neg n = sg nega (qa.num.natAbs * qb.den) + sg negb (qb.num.natAbs * qa.den) → mkRat (sg neg n) (qa.den * qb.den) = qc) := fun neg n h => by rw [hc]; exact plus_over Hnega.out Hnegb.out h
  have Hc := Lib.hid hc
  rw [l1] at HQa
  rw [l2] at HQa
  rw [l3] at HQb
  rw [l4] at HQb
  rw [l1, l2, l3, l4]
  clear ha hb hover hc Hna Hda Hnb Hdb Hnega Hnegb l1 l2 l3 l4
  obtain ⟨w0, hw0, hb0, ra, rb, rZ, Hz⟩ := zem w #[.bool nega, .slice (some ⟨b1, o1, none⟩) 1 cAa, .slice (some ⟨b2, o2, none⟩) 1 cBa] #[.bool negb, .slice (some ⟨b3, o3, none⟩) 1 cAb, .slice (some ⟨b4, o4, none⟩) 1 cBb] #[.bool false, .slice none 0 0, .slice none 0 0] 31 31 31
  have v1 := zab hb0 u1
  have v2 := zab hb0 u2
  have v3 := zab hb0 u3
  have v4 := zab hb0 u4
  clear u1 u2 u3 u4
  have Ra_0 := Lib.hid (ra)
  have Rb_0 := Lib.hid (rb)
  have Z_0 := Lib.hid (rZ)
  have bw_0 := Lib.hid (hb0)
  have sz_0 : Hid (w.heap.size + 3 ≤ w0.heap.size) := Lib.hid (Nat.le_of_eq Hz.out.symm)
  have B_0 := Lib.hid (Bru.next hB hb0)
  clear ra rb rZ hb0 hB
  obtain ⟨cRa0_1, cRa1_1, cRa2_1⟩ := zad Ra_0.out
  obtain ⟨cRb0_2, cRb1_2, cRb2_2⟩ := zad Rb_0.out
  obtain ⟨cZ0_3, cZ1_3, cZ2_3⟩ := zad Z_0.out
  obtain ⟨fZ0_3, fZ1_3, fZ2_3⟩ := zax Z_0.out
  obtain ⟨x, hx⟩ : ∃ x : Int, x = (qa.num.natAbs : Int) * (qb.den : Int) := ⟨_, rfl⟩
  obtain ⟨y, hy⟩ : ∃ y : Int, y = (qb.num.natAbs : Int) * (qa.den : Int) := ⟨_, rfl⟩
  obtain ⟨d, hd⟩ : ∃ d : Int, d = (qa.den : Int) * (qb.den : Int) := ⟨_, rfl⟩
  obtain ⟨x0, x9⟩ := prod_limb g1 s1 g4 s4
  obtain ⟨y0, y9⟩ := prod_limb g3 s3 g2 s2
  obtain ⟨d0, d9⟩ := prod_limb g2 s2 g4 s4
  rw [← hx] at x0 x9
  rw [← hy] at y0 y9
  rw [← hd] at d0 d9
  have Hx : Hid (x.toNat = qa.num.natAbs * qb.den) := by rw [hx]; exact Int.toNat_natCast _
  have Hy : Hid (y.toNat = qb.num.natAbs * qa.den) := by rw [hy]; exact Int.toNat_natCast _
  have Hd : Hid (d.toNat = qa.den * qb.den) := by rw [hd]; exact Int.toNat_natCast _
  have e1 : IntKind.u64.wrap (qa.num.natAbs : Int) = (qa.num.natAbs : Int) := IntWalk.u64_in _ (by omega)
  have e2 : IntKind.u64.wrap (qa.den : Int) = (qa.den : Int) := IntWalk.u64_in _ (by omega)
  have e3 : IntKind.u64.wrap (qb.num.natAbs : Int) = (qb.num.natAbs : Int) := IntWalk.u64_in _ (by omega)
  have e4 : IntKind.u64.wrap (qb.den : Int) = (qb.den : Int) := IntWalk.u64_in _ (by omega)
  have k1 : IntKind.u64.wrap ((qa.num.natAbs : Int) * (qb.den : Int)) = x := by rw [hx]; exact IntWalk.u64_in _ (by rw [← hx]; omega)
  have k2 : IntKind.u64.wrap ((qb.num.natAbs : Int) * (qa.den : Int)) = y := by rw [hy]; exact IntWalk.u64_in _ (by rw [← hy]; omega)
  have k3 : IntKind.u64.wrap ((qa.den : Int) * (qb.den : Int)) = d := by rw [hd]; exact IntWalk.u64_in _ (by rw [← hd]; omega)
  clear hx hy hd
  go_enter Tryz.func137, Tryz.ntmps137
  go_wp2_with fail
  clear hw0
  rcases (by cases nega <;> cases negb <;> simp : (nega == negb) = true ∨ (nega == negb) = false) with hs | hs
  · have Hs : Hid (negb = nega) := by unfold Hid; cases nega <;> cases negb <;> simp at hs ⊢
    have Hq : Hid (qc = mkRat (sg nega (x + y).toNat) d.toNat) := by rw [Hid, Hd.out]; refine (Hov.out _ _ ?_).symm; rw [Hs.out, ← sg_add, ← Hx.out, ← Hy.out]; congr 1; omega
    go_quiet (fail)
    go_wp2_with fail
    go_quiet (fail)
    go_wp2_with fail
    refine (words_i _ nega (x + y) d qc (Bru.drewN B_0.out _) (by omega) (by omega) (by omega) (by omega) Hq.out).mono ?_
    rintro e w1 ⟨⟨v1, rfl, hv⟩, hb⟩
    have newV := Lib.hid (IsQ.stb.le hv sz_0.out)
    have Ra_1 := Lib.hid (Row.next Ra_0.out (zbs hb))
    have Rb_1 := Lib.hid (Row.next Rb_0.out (zbs hb))
    have Z_1 := Lib.hid (Row.next Z_0.out (zbs hb))
    have bw_1 := Lib.hid (zaa bw_0.out (zbs hb))
    have sz_1 := Lib.hid (zam sz_0.out (zbs hb))
    have B_1 := Lib.hid (Bru.next B_0.out (zbs hb))
    clear Ra_0 Rb_0 Z_0 bw_0 sz_0 B_0
    have V_0 := newV
    clear newV
    obtain ⟨s1, P1, k1, O1, l1, rfl, _, _, _⟩ := zan hv
    clear cRa0_1 cRa1_1 cRa2_1 cRb0_2 cRb1_2 cRb2_2 cZ0_3 cZ1_3 cZ2_3 fZ0_3 fZ1_3 fZ2_3
    obtain ⟨cRa0_4, cRa1_4, cRa2_4⟩ := zad Ra_1.out
    obtain ⟨cRb0_5, cRb1_5, cRb2_5⟩ := zad Rb_1.out
    obtain ⟨cZ0_6, cZ1_6, cZ2_6⟩ := zad Z_1.out
    obtain ⟨fZ0_6, fZ1_6, fZ2_6⟩ := zax Z_1.out
    go_wp2_with fail
    refine zbr Tryz.results137 rfl rfl (Row.put3 Z_1.out _ _ _) (retQ2 V_0.out bw_1.out (by omega) (by omega))
  · have Hs : Hid (negb = !nega) := by unfold Hid; cases nega <;> cases negb <;> simp at hs ⊢
    rcases Int.lt_trichotomy x y with hxy | hxy | hxy
    · have Hq : Hid (qc = mkRat (sg negb (y - x).toNat) d.toNat) := by rw [Hid, Hd.out]; refine (Hov.out _ _ ?_).symm; rw [Hs.out, ← Hx.out, ← Hy.out, show (y - x).toNat = y.toNat - x.toNat from by omega, sg_sub' (by omega)]; simp
      have hxy1 : (x == y) = false := beq_eq_false_iff_ne.2 (by omega)
      go_quiet (fail)
      go_wp2_with fail
      go_quiet (fail)
      go_wp2_with fail
      refine (words_i _ negb (y - x) d qc (Bru.drewN B_0.out _) (by omega) (by omega) (by omega) (by omega) Hq.out).mono ?_
      rintro e w1 ⟨⟨v1, rfl, hv⟩, hb⟩
      have newV := Lib.hid (IsQ.stb.le hv sz_0.out)
      have Ra_1 := Lib.hid (Row.next Ra_0.out (zbs hb))
      have Rb_1 := Lib.hid (Row.next Rb_0.out (zbs hb))
      have Z_1 := Lib.hid (Row.next Z_0.out (zbs hb))
      have bw_1 := Lib.hid (zaa bw_0.out (zbs hb))
      have sz_1 := Lib.hid (zam sz_0.out (zbs hb))
      have B_1 := Lib.hid (Bru.next B_0.out (zbs hb))
      clear Ra_0 Rb_0 Z_0 bw_0 sz_0 B_0
      have V_0 := newV
      clear newV
      obtain ⟨s1, P1, k1, O1, l1, rfl, _, _, _⟩ := zan hv
      clear cRa0_1 cRa1_1 cRa2_1 cRb0_2 cRb1_2 cRb2_2 cZ0_3 cZ1_3 cZ2_3 fZ0_3 fZ1_3 fZ2_3
      obtain ⟨cRa0_4, cRa1_4, cRa2_4⟩ := zad Ra_1.out
      obtain ⟨cRb0_5, cRb1_5, cRb2_5⟩ := zad Rb_1.out
      obtain ⟨cZ0_6, cZ1_6, cZ2_6⟩ := zad Z_1.out
      obtain ⟨fZ0_6, fZ1_6, fZ2_6⟩ := zax Z_1.out
      go_wp2_with fail
      refine zbr Tryz.results137 rfl rfl (Row.put3 Z_1.out _ _ _) (retQ2 V_0.out bw_1.out (by omega) (by omega))
    · have Hq : Hid (qc = 0) := by rw [Hid, ← Hov.out true 0 (by rw [Hs.out, ← Hx.out, ← Hy.out, hxy, sg_not]; simp [sg]; omega)]; simp [sg]
      have hxy1 : (x == y) = true := beq_iff_eq.2 hxy
      have Hxy := Lib.hid hxy
      clear hxy
      go_quiet (fail)
      go_wp2_with fail
      go_quiet (fail)
      go_wp2_with fail
      refine (zero_q _).mono ?_
      rintro e w1 ⟨⟨v1, rfl, hv⟩, hb⟩
      have newV := Lib.hid (IsQ.stb.le hv sz_0.out)
      have Ra_1 := Lib.hid (Row.next Ra_0.out (zbs hb))
      have Rb_1 := Lib.hid (Row.next Rb_0.out (zbs hb))
      have Z_1 := Lib.hid (Row.next Z_0.out (zbs hb))
      have bw_1 := Lib.hid (zaa bw_0.out (zbs hb))
      have sz_1 := Lib.hid (zam sz_0.out (zbs hb))
      have B_1 := Lib.hid (Bru.next B_0.out (zbs hb))
      clear Ra_0 Rb_0 Z_0 bw_0 sz_0 B_0
      have V_0 := newV
      clear newV
      obtain ⟨s1, P1, k1, O1, l1, rfl, _, _, _⟩ := zan hv
      clear cRa0_1 cRa1_1 cRa2_1 cRb0_2 cRb1_2 cRb2_2 cZ0_3 cZ1_3 cZ2_3 fZ0_3 fZ1_3 fZ2_3
      obtain ⟨cRa0_4, cRa1_4, cRa2_4⟩ := zad Ra_1.out
      obtain ⟨cRb0_5, cRb1_5, cRb2_5⟩ := zad Rb_1.out
      obtain ⟨cZ0_6, cZ1_6, cZ2_6⟩ := zad Z_1.out
      obtain ⟨fZ0_6, fZ1_6, fZ2_6⟩ := zax Z_1.out
      go_wp2_with fail
      rw [Hq.out]
      refine zbr Tryz.results137 rfl rfl (Row.put3 Z_1.out _ _ _) (retQ2 V_0.out bw_1.out (by omega) (by omega))
    · have Hq : Hid (qc = mkRat (sg nega (x - y).toNat) d.toNat) := by rw [Hid, Hd.out]; refine (Hov.out _ _ ?_).symm; rw [Hs.out, ← Hx.out, ← Hy.out, show (x - y).toNat = x.toNat - y.toNat from by omega, sg_sub (by omega)]
      have hxy1 : (x == y) = false := beq_eq_false_iff_ne.2 (by omega)
      go_quiet (fail)
      go_wp2_with fail
      go_quiet (fail)
      go_wp2_with fail
      refine (words_i _ nega (x - y) d qc (Bru.drewN B_0.out _) (by omega) (by omega) (by omega) (by omega) Hq.out).mono ?_
      rintro e w1 ⟨⟨v1, rfl, hv⟩, hb⟩
      have newV := Lib.hid (IsQ.stb.le hv sz_0.out)
      have Ra_1 := Lib.hid (Row.next Ra_0.out (zbs hb))
      have Rb_1 := Lib.hid (Row.next Rb_0.out (zbs hb))
      have Z_1 := Lib.hid (Row.next Z_0.out (zbs hb))
      have bw_1 := Lib.hid (zaa bw_0.out (zbs hb))
      have sz_1 := Lib.hid (zam sz_0.out (zbs hb))
      have B_1 := Lib.hid (Bru.next B_0.out (zbs hb))
      clear Ra_0 Rb_0 Z_0 bw_0 sz_0 B_0
      have V_0 := newV
      clear newV
      obtain ⟨s1, P1, k1, O1, l1, rfl, _, _, _⟩ := zan hv
      clear cRa0_1 cRa1_1 cRa2_1 cRb0_2 cRb1_2 cRb2_2 cZ0_3 cZ1_3 cZ2_3 fZ0_3 fZ1_3 fZ2_3
      obtain ⟨cRa0_4, cRa1_4, cRa2_4⟩ := zad Ra_1.out
      obtain ⟨cRb0_5, cRb1_5, cRb2_5⟩ := zad Rb_1.out
      obtain ⟨cZ0_6, cZ1_6, cZ2_6⟩ := zad Z_1.out
      obtain ⟨fZ0_6, fZ1_6, fZ2_6⟩ := zax Z_1.out
      go_wp2_with fail
      refine zbr Tryz.results137 rfl rfl (Row.put3 Z_1.out _ _ _) (retQ2 V_0.out bw_1.out (by omega) (by omega))
end Go.Proofs.YtblpaocignlpkaaGreatDoor
