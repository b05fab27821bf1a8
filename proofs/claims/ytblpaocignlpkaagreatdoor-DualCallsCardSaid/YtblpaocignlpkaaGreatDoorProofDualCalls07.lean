/-
  The contract of package dual's Tight.
-/
import Derived.Test.YtblpaocignlpkaaGreatDoorProofDualCalls06
import Derived.Test.YtblpaocignlpkaaGreatDoorBase12
import Derived.Test.YtblpaocignlpkaaGreatDoorProofDualCalls05
import Derived.Test.YtblpaocignlpkaaGreatDoorBase13
import Derived.Test.YtblpaocignlpkaaGreatDoorProofDualCalls04
namespace Go.Proofs.YtblpaocignlpkaaGreatDoor
open Go.RowKit
set_option linter.unusedVariables false

/-- An int of a list. -/
def IsI (w : World) (S : Nat → Prop) (v : Value) (n : Nat) : Prop := v = .int .i64 (n : Int)
theorem IsI.stb : Stb IsI := fun _ _ _ _ _ _ h _ => h
abbrev IsIs : World → (Nat → Prop) → Value → List Nat → Prop := IsS 1 IsI
theorem IsIs.stb : Stb IsIs := IsS.stb IsI.stb
theorem int_info : (Tryz.prog.info? 3).map (fun i => (i.zero, i.size, i.bytes)) = some (some (.int .i64 0), 1, 8) := by kernel_rfl
theorem elI : ElN Tryz.prog 53 3 1 8 :=
  ⟨Tryz.underlying53, by obtain ⟨i, h1, h2, h3, h4⟩ := info_parts int_info; exact ⟨i, _, h1, h2, h3, h4, rfl⟩, by omega⟩
/-- The rows that are equations at a point. -/
def isTight (A : List (List Rat)) (B x : List Rat) (i : Nat) : Bool := decide (dotQ (A.getD i []) x = B.getD i 0)
def tightTo (A : List (List Rat)) (B x : List Rat) (n : Nat) : List Nat := (List.range n).filter (isTight A B x)
theorem tightTo_in {A : List (List Rat)} {B x : List Rat} {n : Nat} (h : isTight A B x n = true) : tightTo A B x (n + 1) = tightTo A B x n ++ [n] := by
  unfold tightTo
  rw [List.range_succ, List.filter_append, List.filter_cons, if_pos h, List.filter_nil]
theorem tightTo_out {A : List (List Rat)} {B x : List Rat} {n : Nat} (h : isTight A B x n = false) : tightTo A B x (n + 1) = tightTo A B x n := by
  unfold tightTo
  rw [List.range_succ, List.filter_append, List.filter_cons, if_neg (by rw [h]; simp), List.filter_nil, List.append_nil]
theorem tightTo_len (A : List (List Rat)) (B x : List Rat) (n : Nat) : (tightTo A B x n).length ≤ n := by
  unfold tightTo
  exact Nat.le_trans (List.length_filter_le _ _) (by rw [List.length_range]; exact Nat.le_refl _)
/-- What Tight returns of a point that is right. -/
def tightR (q : ProgQ) (x : List Rat) : List Nat := if feasB q.A q.B x then tightTo q.A q.B x q.B.length else []
def tightE (q : ProgQ) (x : List Rat) : Int := if feasB q.A q.B x then 0 else 13
theorem cmp_eq {a b : Rat} : (cmpQ a b == 0) = decide (a = b) := by
  have := @cmp_ne a b
  rw [bne] at this
  exact Bool.not_inj this

set_option maxHeartbeats 1000000 in
theorem tight_err {w : World} {vp vx : Value} {p : Prog} {x : List Raw} (hp : IsP w (Old w) vp p) (hx : IsV w (Old w) vx x) (hB : Bru w) (h0 : givE p [p.C.length] [x] ≠ 0) :
    Calls Tryz.prog 26 #[vp, vx] w fun e w' => e = .returned (.tuple #[.slice none 0 0, .int .i64 (givE p [p.C.length] [x])]) ∧ Below w.heap.size w w' := by
  have hp2 := hp
  have HX := Lib.hid hx
  have HP := Lib.hid hp2
  have HB := Lib.hid hB
  obtain ⟨A, cA, B, cB, C, cC, rfl, _, _, hC⟩ := id hp2
  obtain ⟨D, d, rfl, hxl⟩ := isV_len hx
  have hcl := (isV_len hC).choose_spec.choose_spec.2
  obtain ⟨E, hE⟩ : ∃ E, E = givE p [p.C.length] [x] := ⟨_, rfl⟩
  rw [← hE] at h0
  have HE := Lib.hid hE
  clear hp hx hB hC hE hp2
  obtain ⟨w0, hw0, hb0, rP, rN, rL, Hz⟩ := boxes3 w #[.slice A p.A.length cA, .slice B p.B.length cB, .slice C p.C.length cC] #[.int .i64 (p.C.length : Int)] #[.slice D (x).length d] 27 3 25
  have Hc := Lib.hid (given_l (IsP.stb.to HP.out (same_old hb0)) (nsIn1 rN) (isM_row1 rL (IsV.stb.to HX.out (same_old hb0))) (Bru.next HB.out hb0) rfl (by intro m hm; simp at hm; omega) (by simp))
  have HB0 := Lib.hid hb0
  have RP := Lib.hid rP
  obtain ⟨cP0, cP1, cP2⟩ := cells3 rP
  clear rP rN rL hb0
  have e0 : (E != 0) = true := bne_iff_ne.2 h0
  rw [← HE.out]
  clear h0
  go_enter Tryz.func26, Tryz.ntmps26
  go_wp2_with fail
  clear hw0
  refine Hc.out.mono ?_
  rw [← HE.out]
  rintro e w1 ⟨rfl, hb⟩
  have Hb1 := Lib.hid (below_step HB0.out hb)
  clear hb cP0 cP1 cP2
  go_wp2_with fail
  go_ret2
  exact ⟨rfl, Hb1.out⟩

set_option maxRecDepth 100000 in
set_option maxHeartbeats 4000000 in
theorem tight_good {w : World} {vp vx : Value} {q : ProgQ} {x : List Rat} (hp : IsP w (Old w) vp (rawP q)) (hx : IsV w (Old w) vx (rawV x)) (hB : Bru w) (hg : Good q 1024) (h0 : givE (rawP q) [(rawP q).C.length] [rawV x] = 0) (hl : x.length = q.C.length) (hsx : ∀ e ∈ x, Sz e 1024) :
    Calls Tryz.prog 26 #[vp, vx] w fun e w' => (∃ v, e = .returned (.tuple #[v, .int .i64 (tightE q x)]) ∧ IsIs w' (Old w') v (tightR q x)) ∧ Below w.heap.size w w' := by
  obtain ⟨p, hpp⟩ : ∃ p, p = rawP q := ⟨_, rfl⟩
  have HQ := Lib.hid hp
  have HX := Lib.hid hx
  have HG := Lib.hid hg
  have Hl := Lib.hid hl
  have Hsx := Lib.hid hsx
  have HB := Lib.hid hB
  have HE := Lib.hid h0
  obtain ⟨A, cA, B, cB, C, cC, rfl, hA, hBv, hC⟩ := hp
  obtain ⟨D, d, rfl, hxl⟩ := isV_len hx
  have hcl := (isV_len hC).choose_spec.choose_spec.2
  obtain ⟨M, hM⟩ : ∃ m, m = q.B.length := ⟨_, rfl⟩
  obtain ⟨n, hn⟩ : ∃ m, m = q.C.length := ⟨_, rfl⟩
  have hM40 : M ≤ 40 := by rw [hM]; exact hg.nB
  have hn40 : n ≤ 40 := by rw [hn]; exact hg.nC
  simp only [rawP, rawV_len, rawM_len] at hA hBv hC HQ HX hcl ⊢
  rw [hg.rows, ← hM, ← hn] at HQ
  rw [hg.rows, ← hM] at hA
  rw [← hM] at hBv
  rw [hl, ← hn] at HX
  rw [hg.rows, hl, ← hM, ← hn]
  have HM := Lib.hid hM
  have Hn := Lib.hid hn
  have HA := Lib.hid hA
  have HBv := Lib.hid hBv
  clear hx hB hC hA hBv hg h0 hl hsx hM hn hxl hcl hpp
  obtain ⟨w0, hw0, hb0, rP, rN, rL, Hz⟩ := boxes3 w #[.slice A M cA, .slice B M cB, .slice C n cC] #[.int .i64 (n : Int)] #[.slice D n d] 27 3 25
  have Hc := Lib.hid (given_l (p := rawP q) (ns := [(rawP q).C.length]) (ls := [rawV x]) (IsP.stb.to HQ.out (same_old hb0)) (nsIn1 (by simp only [rawP, rawV_len]; rw [← Hn.out]; exact rN)) (isM_row1 rL (IsV.stb.to HX.out (same_old hb0))) (Bru.next HB.out hb0) rfl (by intro m hm; simp only [rawP, rawV_len, List.mem_singleton] at hm; rw [← Hn.out] at hm; omega) (by simp))
  have HB0 := Lib.hid hb0
  have RP := Lib.hid rP
  obtain ⟨cP0, cP1, cP2⟩ := cells3 rP
  clear rP rN rL hb0
  obtain ⟨b1, hb1⟩ : ∃ b, b = feasB q.A q.B x := ⟨_, rfl⟩
  have Hb1q := Lib.hid hb1
  unfold tightE tightR
  rw [← hb1, ← HM.out]
  clear hb1
  go_enter Tryz.func26, Tryz.ntmps26
  go_wp2_with fail
  clear hw0
  refine Hc.out.mono ?_
  rw [HE.out]
  rintro e w1 ⟨rfl, hb⟩
  have Hb1 := Lib.hid (below_step HB0.out hb)
  have RP1 := Lib.hid (RP.out.next hb)
  clear hb cP0 cP1 cP2
  obtain ⟨cP0, cP1, cP2⟩ := cells3 RP1.out
  obtain ⟨w2, hw2, hb2, rS, Hz2⟩ := boxes1 w1 #[.slice A M cA, .slice B M cB, .slice C n cC] 84
  have Hb2 := Lib.hid (below_step Hb1.out hb2)
  have RP2 := Lib.hid (RP1.out.next hb2)
  obtain ⟨cS0, cS1, cS2⟩ := cells3 rS
  clear rS hb2
  go_wp2_with fail
  clear hw2
  refine (feasible_l (IsP.stb.to HQ.out (same_old Hb2.out)) (IsV.stb.to HX.out (same_old Hb2.out)) (Bru.next HB.out Hb2.out) HG.out Hl.out Hsx.out).mono ?_
  rw [← Hb1q.out]
  rintro e w3 ⟨rfl, hb⟩
  have Hb3 := Lib.hid (below_step Hb2.out hb)
  have RP3 := Lib.hid (RP2.out.next hb)
  clear hb cS0 cS1 cS2 cP0 cP1 cP2
  obtain ⟨cP0, cP1, cP2⟩ := cells3 RP3.out
  cases b1 with
  | false =>
    go_wp2_with fail
    go_ret2
    exact ⟨⟨_, rfl, IsS.nil⟩, Hb3.out⟩
  | true =>
    go_wp2_with fail
    clear cP0 cP1 cP2
    go_loopw [31, 9, 10, 8] (fun i ii rr ov wr => ∃ j : Nat, j ≤ M ∧ i = .int .i64 (j : Int) ∧ Below w3.heap.size w3 wr ∧ Hid (OwnS 1 3 IsI wr w3.heap.size (fun _ => False) ov (tightTo q.A q.B x j))) (fun i _ _ _ _ => M - (intOf i).toNat)
    case atStart => exact ⟨0, Nat.zero_le _, rfl, Below.refl _ _, OwnS.nil (fun b hb => hb.elim)⟩
    case round =>
      obtain ⟨j, hj, rfl, hbw, hrel⟩ := hrel
      have Hbw := Lib.hid hbw
      have Own := Lib.hid hrel.out
      have HW := Lib.hid (below_step Hb3.out hbw)
      obtain ⟨cP0, cP1, cP2⟩ := cells3 (RP3.out.next hbw)
      clear hrel
      rcases Nat.lt_or_ge j M with hlt | hge
      · obtain ⟨row, hr, hrr⟩ := rawM_get (m := q.A) (j := j) (by rw [HG.out.rows, ← HM.out]; exact hlt)
        obtain ⟨b, hb, hbr⟩ := rawV_get (l := q.B) (j := j) (by rw [← HM.out]; exact hlt)
        obtain ⟨b2, o2, R1, R2, rfl, _, helr, d0⟩ := isM_get (IsM.stb.to HA.out (same_old HW.out)) hrr
        obtain ⟨b1, o1, X1, X2, X3, X4, rfl, _, helb, c0, c1, c2⟩ := isV_get (IsV.stb.to HBv.out (same_old HW.out)) hbr
        have hrl : row.length = n := (HG.out.cols row (List.mem_of_getElem? hr)).trans Hn.out.symm
        have er : (rawV row).length = n := (rawV_len row).trans hrl
        rw [er] at d0 helr
        obtain ⟨bb0, hbb0⟩ : ∃ s, s = (raw b).neg := ⟨_, rfl⟩
        obtain ⟨bb1, hbb1⟩ : ∃ s, s = (raw b).num.length := ⟨_, rfl⟩
        obtain ⟨bb2, hbb2⟩ : ∃ s, s = (raw b).den.length := ⟨_, rfl⟩
        rw [← hbb0] at c0
        rw [← hbb1] at c1
        rw [← hbb2] at c2
        rw [← hbb0, ← hbb1, ← hbb2] at helb
        clear hbb0 hbb1 hbb2
        have QR := Lib.hid helr
        have QB := Lib.hid (isR_isQ helb)
        have QX := Lib.hid (IsV.stb.to HX.out (same_old HW.out))
        have BW := Lib.hid (Bru.next HB.out HW.out)
        obtain ⟨dd, hd⟩ : ∃ d, d = dotQ row x := ⟨_, rfl⟩
        obtain ⟨oo, ho⟩ : ∃ o, o = cmpQ dd b := ⟨_, rfl⟩
        have Hok : Hid (isTight q.A q.B x j = decide (dd = b)) := by rw [Hid, isTight, getD_some hb, getD_row hr, hd]
        have Hrl := Lib.hid hrl
        have Hsr : Hid (∀ e ∈ row, Sz e 1024) := HG.out.szA row (List.mem_of_getElem? hr)
        have Hsd : Hid (Sz dd 100000) := by rw [Hid, hd]; exact dotQ_sz2 Hsr.out Hsx.out (by rw [hrl]; exact hn40)
        have Hsb : Hid (Sz b 100000) := (HG.out.szB b (List.mem_of_getElem? hb)).le (by omega)
        obtain ⟨v2, hv2⟩ : ∃ v, v = decide (dd = b) := ⟨_, rfl⟩
        have p2 : (oo == 0) = v2 := by rw [ho, hv2]; exact cmp_eq
        rw [← hv2] at Hok
        have Hd := Lib.hid hd
        have Ho := Lib.hid ho
        have cr := ratCells
        have hk0 : (0 : Int) ≤ (j : Int) := by omega
        have hk1 : (j : Int) < (M : Int) := by omega
        have CC := Lib.hid (And.intro cP1 (And.intro c0 (And.intro c1 c2)))
        have Hlt := Lib.hid hlt
        clear hr hb hrr hbr helr helb hrl er hd ho hv2 hbw hlt
        go_wp2_with fail
        have HS : Hid (∀ W : World, Below wr.heap.size wr W → W.cell? ⟨w.heap.size, 1, none⟩ = some (.slice (some ⟨b1, o1, none⟩) M cB) ∧ W.cell? ⟨b1, o1 + j * 3, none⟩ = some (.bool bb0) ∧ W.cell? ⟨b1, o1 + j * 3 + 1, none⟩ = some (.slice X1 bb1 X2) ∧ W.cell? ⟨b1, o1 + j * 3 + 2, none⟩ = some (.slice X3 bb2 X4)) := fun W hW => ⟨keep_cell hW CC.out.1, keep_cell hW CC.out.2.1, keep_cell hW CC.out.2.2.1, keep_cell hW CC.out.2.2.2⟩
        have D4 : Hid (∀ W : World, Below wr.heap.size wr W → Calls Tryz.prog 58 #[.slice R1 n R2, .slice D n d] W (RetQ W dd)) := fun W hW => by rw [Hd.out]; exact dot_q (M := n) (IsV.stb.next QR.out hW) (IsV.stb.next QX.out hW) (Bru.next BW.out hW) Hrl.out (Hl.out.trans Hn.out.symm) hn40 Hsr.out Hsx.out
        go_region_held3 (fun w' => w'.cell? ⟨w.heap.size, 1, none⟩ = some (.slice (some ⟨b1, o1, none⟩) M cB) ∧ w'.cell? ⟨b1, o1 + j * 3, none⟩ = some (.bool bb0) ∧ w'.cell? ⟨b1, o1 + j * 3 + 1, none⟩ = some (.slice X1 bb1 X2) ∧ w'.cell? ⟨b1, o1 + j * 3 + 2, none⟩ = some (.slice X3 bb2 X4))
          (exact HS.out _ (by (repeat (first | exact Below.refl _ _ | assumption | refine below_allocR ?_ _ | refine below_drewR ?_ | refine below_put3X ?_ ?_ _ _ _ | refine below_setG ?_ (by omega) | refine below_step ?_ (by assumption))); (first | done | fail)))
          (first
            | (go_at_call 58; (with_reducible refine Calls.mono (D4.out _ (by (repeat (first | exact Below.refl _ _ | assumption | refine below_allocR ?_ _ | refine below_drewR ?_ | refine below_put3X ?_ ?_ _ _ _ | refine below_setG ?_ (by omega) | refine below_step ?_ (by assumption))); (first | done | fail))) ?_); rintro e w4 ⟨⟨v4, rfl, hv4⟩, hb4⟩; have V4 := Lib.hid (IsQ.stb.old hv4); obtain ⟨s4, P4, k4, O4, l4, rfl, _, _, _⟩ := isQ_open hv4; have D5 : Hid (∀ W : World, Below w4.heap.size w4 W → Calls Tryz.prog 65 #[.agg #[.bool s4, .slice P4 (lim dd.num.natAbs).length k4, .slice O4 (lim dd.den).length l4], .agg #[.bool bb0, .slice X1 bb1 X2, .slice X3 bb2 X4]] W (fun e w' => e = .returned (.int .i64 oo) ∧ Below W.heap.size W w')) := fun W hW => by rw [Ho.out]; exact order_q (IsQ.stb.next V4.out hW) (IsQ.stb.next QB.out (by (repeat (first | exact Below.refl _ _ | assumption | refine below_allocR ?_ _ | refine below_drewR ?_ | refine below_put3X ?_ ?_ _ _ _ | refine below_setG ?_ (by omega) | refine below_step ?_ (by assumption))); (first | done | fail))) Hsd.out Hsb.out)
            | (go_at_call 65; (with_reducible refine Calls.mono (D5.out _ (by (repeat (first | exact Below.refl _ _ | assumption | refine below_allocR ?_ _ | refine below_drewR ?_ | refine below_put3X ?_ ?_ _ _ _ | refine below_setG ?_ (by omega) | refine below_step ?_ (by assumption))); (first | done | fail))) ?_); rintro e w5 ⟨rfl, hb5⟩))
        have hB5 : Below wr.heap.size wr w5 := (by (repeat (first | exact Below.refl _ _ | assumption | refine below_allocR ?_ _ | refine below_drewR ?_ | refine below_put3X ?_ ?_ _ _ _ | refine below_setG ?_ (by omega) | refine below_step ?_ (by assumption))); (first | done | fail))
        have Hbw5 := Lib.hid (Below.trans Hbw.out (Below.mono hB5 (Below.size Hbw.out)))
        have Own5 := Lib.hid (OwnS.step (T := fun _ => False) IsI.stb Own.out hB5 (fun _ h => h) (fun _ h => h.elim))
        have hbase : w3.heap.size ≤ w5.heap.size := Hbw5.out.size
        clear HS D4 D5 CC hB5 hv4 V4 hb4 hb5 QR QB QX BW Hd Ho Hrl Hsr Hsd Hsb
        cases v2 with
        | false =>
          go_wp2_with fail
          go_roundw
          case rel => exact ⟨j + 1, by have := Hlt.out; omega, by go_num, Hbw5.out, by rw [Hid, tightTo_out Hok.out]; exact Own5.out⟩
          case measure => have := Hlt.out; simp [intOf]; omega
        | true =>
          go_wp2_with (at_builtin; refine wp_appS elI rfl _ _ rfl IsI.stb rfl rfl rfl Own5.out (show IsI w5 (fun _ => False) (.int .i64 (j : Int)) j from rfl) rfl (by intro u hu; simp [Value.cells] at hu; subst hu; rfl) (by have h1 := tightTo_len q.A q.B x j; have := Hlt.out; omega) hbase ?_; intro v6 w6 hown6 hb6 hz6)
          go_roundw
          case rel => exact ⟨j + 1, by have := Hlt.out; omega, by go_num, Hbw5.out.trans hb6, by rw [Hid, tightTo_in Hok.out]; exact hown6⟩
          case measure => have := Hlt.out; simp [intOf]; omega
      · obtain rfl : j = M := by omega
        clear hbw
        go_wp2_with fail
        go_ret2
        exact ⟨⟨_, rfl, OwnS.isS IsI.stb (T := Old wr) Own.out (fun b hb => hb.elim) (fun b h1 h2 => h2)⟩, HW.out⟩
end Go.Proofs.YtblpaocignlpkaaGreatDoor
/-
  The contracts of the reference's Of, and of parlourkit's Alike at lists of ints.
-/
namespace Go.Proofs.YtblpaocignlpkaaGreatDoor
open Go.RowKit
set_option linter.unusedVariables false

set_option maxRecDepth 100000 in
set_option maxHeartbeats 1000000 in
theorem rof_bad {w : World} {vp : Value} {p : Prog} (hp : IsP w (Old w) vp p) (h0 : chkP p ≠ 0) :
    Calls Tryz.prog 23 #[vp] w fun e w' => e = .returned (.tuple #[.agg #[.slice none 0 0, .slice none 0 0, .slice none 0 0], .int .i64 (chkP p)]) ∧ Below w.heap.size w w' := by
  have HP := Lib.hid hp
  obtain ⟨A, cA, B, cB, C, cC, rfl, _, _, _⟩ := hp
  obtain ⟨x, hx⟩ : ∃ x, x = chkP p := ⟨_, rfl⟩
  have Hx := Lib.hid hx
  rw [← hx] at h0 ⊢
  have e0 : (x != 0) = true := bne_iff_ne.2 h0
  clear hx h0
  obtain ⟨w0, hw0, hb0, rP, rZ, Hz⟩ := boxes2 w #[.slice A p.A.length cA, .slice B p.B.length cB, .slice C p.C.length cC] #[.slice none 0 0, .slice none 0 0, .slice none 0 0] 27 27
  have HB0 := Lib.hid hb0
  have RZ := Lib.hid rZ
  obtain ⟨cP0, cP1, cP2⟩ := cells3 rP
  clear rP rZ hb0
  go_enter Tryz.func23, Tryz.ntmps23
  go_wp2_with fail
  clear hw0
  refine (rpcheck_at HP.out HB0.out).mono ?_
  rw [← Hx.out]
  rintro e w1 ⟨rfl, hb⟩
  have Hb1 := Lib.hid (below_step HB0.out hb)
  have RZ1 := Lib.hid (RZ.out.next hb)
  obtain ⟨d0, d1, d2⟩ := cells3 RZ1.out
  obtain ⟨f0, f1, f2⟩ := free3 RZ1.out
  clear hb
  go_wp2_with fail
  refine bodyPost_ret (results_prog2 rfl rfl (Row.put3 RZ1.out _ _ _)) rfl ?_
  exact ⟨rfl, below_put3 Hb1.out (by omega) _ _ _⟩

set_option maxRecDepth 100000 in
set_option maxHeartbeats 4000000 in
theorem rof_good {w : World} {vp : Value} {q : ProgQ} (hp : IsP w (Old w) vp (rawP q)) (hg : Good q 1024) (h0 : chkP (rawP q) = 0) :
    Calls Tryz.prog 23 #[vp] w fun e w' => (∃ v, e = .returned (.tuple #[v, .int .i64 0]) ∧ IsP w' (Old w') v (rawP (dualQ q))) ∧ Below w.heap.size w w' := by
  have HG := Lib.hid (good_dual hg)
  have HQ := Lib.hid hg
  have HP := Lib.hid hp
  obtain ⟨p, hpp⟩ : ∃ p, p = rawP q := ⟨_, rfl⟩
  have hp' := hp
  rw [← hpp] at hp' h0
  have HP' := Lib.hid hp'
  have HE := Lib.hid h0
  obtain ⟨A, cA, B, cB, C, cC, rfl, _, _, _⟩ := hp'
  have HO : Hid (∀ W, Below w.heap.size w W → Calls Tryz.prog 68 #[.agg #[.slice A p.A.length cA, .slice B p.B.length cB, .slice C p.C.length cC]] W fun e w' => (∃ v, e = .returned v ∧ IsP w' (Old w') v (rawP (dualQ q))) ∧ Below W.heap.size W w') := fun W h => rof_l (IsP.stb.to HP.out (same_old h)) HQ.out
  clear hp hpp h0 hg
  obtain ⟨w0, hw0, hb0, rP, rZ, Hz⟩ := boxes2 w #[.slice A p.A.length cA, .slice B p.B.length cB, .slice C p.C.length cC] #[.slice none 0 0, .slice none 0 0, .slice none 0 0] 27 27
  have HB0 := Lib.hid hb0
  have RZ := Lib.hid rZ
  have RP := Lib.hid rP
  obtain ⟨cP0, cP1, cP2⟩ := cells3 rP
  clear rP rZ hb0
  go_enter Tryz.func23, Tryz.ntmps23
  go_wp2_with fail
  clear hw0
  refine (rpcheck_at HP'.out HB0.out).mono ?_
  rw [HE.out]
  rintro e w1 ⟨rfl, hb⟩
  have Z1 := Lib.hid hb.size
  have HB1 := Lib.hid (below_step HB0.out hb)
  have RZ1 := Lib.hid (RZ.out.next hb)
  have RP1 := Lib.hid (RP.out.next hb)
  clear hb cP0 cP1 cP2
  obtain ⟨cP0, cP1, cP2⟩ := cells3 RP1.out
  go_wp2_with fail
  refine (HO.out _ HB1.out).mono ?_
  rintro e w2 ⟨⟨v2, rfl, h2⟩, hb⟩
  have hb2 := hb.size
  have HB2 := Lib.hid (below_step HB1.out hb)
  have RZ2 := Lib.hid (RZ1.out.next hb)
  have P2 := Lib.hid h2
  obtain ⟨D1, d1, D2, d2, D3, d3, rfl, h21, h22, h23⟩ := id h2
  clear hb cP0 cP1 cP2 h2
  obtain ⟨w3, hw3, hb3, r3, _⟩ := boxes1 w2 #[.slice D1 (rawP (dualQ q)).A.length d1, .slice D2 (rawP (dualQ q)).B.length d2, .slice D3 (rawP (dualQ q)).C.length d3] 27
  have s3 := hb3.size
  have HB3 := Lib.hid (below_step HB2.out hb3)
  have RZ3 := Lib.hid (RZ2.out.next hb3)
  have M3 := Lib.hid (IsM.stb.to h21 (same_old hb3))
  have B3 := Lib.hid (IsV.stb.to h22 (same_old hb3))
  have C3 := Lib.hid (IsV.stb.to h23 (same_old hb3))
  have R3 := Lib.hid r3
  obtain ⟨g0, g1, g2⟩ := cells3 r3
  clear hb3 r3 h21 h22 h23
  go_wp2_with fail
  clear hw3
  refine (rfitsm_l (l := (dualQ q).A) M3.out (fun r hr => ⟨fun e he => HG.out.szA r hr e he, by rw [HG.out.cols r hr]; have := HG.out.nC; omega⟩) (by rw [HG.out.rows]; have := HG.out.nB; omega)).mono ?_
  rintro e w4 ⟨⟨v4, rfl, h4⟩, hb⟩
  have s4 := hb.size
  have V4 := Lib.hid h4
  obtain ⟨P4, k4, rfl, _⟩ := isM_len h4
  have HB4 := Lib.hid (below_step HB3.out hb)
  have RZ4 := Lib.hid (RZ3.out.next hb)
  have B4 := Lib.hid (IsV.stb.to B3.out (same_old hb))
  have C4 := Lib.hid (IsV.stb.to C3.out (same_old hb))
  replace g0 := keep_cell hb g0
  replace g1 := keep_cell hb g1
  replace g2 := keep_cell hb g2
  clear hb h4
  go_wp2_with fail
  refine (rfitsv_l (l := (dualQ q).B) B4.out (fun e he => HG.out.szB e he) (by have := HG.out.nB; omega)).mono ?_
  rintro e w5 ⟨⟨v5, rfl, h5⟩, hb⟩
  have s5 := hb.size
  have V5 := Lib.hid h5
  obtain ⟨P5, k5, rfl, _⟩ := isV_len h5
  have HB5 := Lib.hid (below_step HB4.out hb)
  have RZ5 := Lib.hid (RZ4.out.next hb)
  have C5 := Lib.hid (IsV.stb.to C4.out (same_old hb))
  have V4' := Lib.hid (IsM.stb.to V4.out (same_new hb))
  replace g0 := keep_cell hb g0
  replace g1 := keep_cell hb g1
  replace g2 := keep_cell hb g2
  clear hb h5
  go_wp2_with fail
  refine (rfitsv_l (l := (dualQ q).C) C5.out (fun e he => HG.out.szC e he) (by have := HG.out.nC; omega)).mono ?_
  rintro e w6 ⟨⟨v6, rfl, h6⟩, hb⟩
  have s6 := hb.size
  have V6 := Lib.hid h6
  obtain ⟨P6, k6, rfl, _⟩ := isV_len h6
  have HB6 := Lib.hid (below_step HB5.out hb)
  have RZ6 := Lib.hid (RZ5.out.next hb)
  have V4'' := Lib.hid (IsM.stb.to V4'.out (same_new hb))
  have V5' := Lib.hid (IsV.stb.to V5.out (same_new hb))
  obtain ⟨z0, z1, z2⟩ := cells3 RZ6.out
  obtain ⟨y0, y1, y2⟩ := free3 RZ6.out
  clear hb h6 g0 g1 g2
  go_wp2_with fail
  have hz := Hz.out
  have z1' := Z1.out
  refine bodyPost_ret (results_prog2 rfl rfl (Row.put3 RZ6.out _ _ _)) rfl ?_
  refine ⟨⟨_, rfl, isP_mk (p := rawP (dualQ q)) (IsM.stb.to V4''.out (same_put3 fun b hb => ?_)) (IsV.stb.to V5'.out (same_put3 fun b hb => ?_)) (IsV.stb.to V6.out (same_put3 fun b hb => ?_))⟩, below_put3 HB6.out (by omega) _ _ _⟩
  all_goals
    have h1 := hb.1
    have h2 := hb.2
    exact ⟨by omega, by show b < _; rw [size_put3]; exact h2⟩

set_option maxHeartbeats 2000000 in
theorem alike_i {w : World} {va vb : Value} {a b : List Nat} (ha : IsIs w (Old w) va a) (hb : IsIs w (Old w) vb b) :
    Calls Tryz.prog 28 #[va, vb] w fun e w' => e = .returned (.bool (decide (a = b))) ∧ Below w.heap.size w w' := by
  have HA := Lib.hid ha
  have HB := Lib.hid hb
  obtain ⟨A, cA, _, rfl, lA, mA, _⟩ := ha
  obtain ⟨B, cB, _, rfl, lB, mB, _⟩ := hb
  unfold maxLen at mA mB
  obtain ⟨la, hla⟩ : ∃ n, n = a.length := ⟨_, rfl⟩
  obtain ⟨lb, hlb⟩ : ∃ n, n = b.length := ⟨_, rfl⟩
  rw [← hla] at HA lA ⊢
  rw [← hlb] at HB lB ⊢
  have Hla := Lib.hid hla
  have Hlb := Lib.hid hlb
  clear hla hlb
  have hA1 : la ≤ 9223372036854775807 := by omega
  have hB1 : lb ≤ 9223372036854775807 := by omega
  clear lA mA lB mB
  by_cases hl : la = lb
  case neg =>
    have b1 : ((la : Int) != (lb : Int)) = true := bne_iff_ne.2 (by omega)
    have Hr : Hid (decide (a = b) = false) := decide_eq_false (fun e => hl (by rw [Hla.out, Hlb.out, e]))
    clear hl
    go_enter Tryz.func28, Tryz.ntmps28
    go_wp2_with fail
    go_ret
    exact ⟨by show Ending.returned (.bool _) = _; rw [Hr.out], Below.refl _ _⟩
  subst hl
  have b1 : ((la : Int) != (la : Int)) = false := by simp
  go_enter Tryz.func28, Tryz.ntmps28
  go_wp2_with fail
  go_loopw [5] (fun i wr => ∃ k : Nat, k ≤ la ∧ i = .int .i64 (k : Int) ∧ Below w.heap.size w wr ∧ Hid (∀ j, j < k → a[j]? = b[j]?)) (fun i _ => la - (intOf i).toNat)
  case atStart => exact ⟨0, Nat.zero_le _, rfl, Below.refl _ _, fun j hj => by omega⟩
  case round =>
    obtain ⟨k, hk, rfl, hbw, hrel⟩ := hrel
    have Hbw := Lib.hid hbw
    have Hrel := Lib.hid hrel.out
    clear hrel
    rcases Nat.lt_or_ge k la with hlt | hge
    · obtain ⟨x, hx⟩ := some_at (l := a) (j := k) (by rw [← Hla.out]; exact hlt)
      obtain ⟨y, hy⟩ := some_at (l := b) (j := k) (by rw [← Hlb.out]; exact hlt)
      obtain ⟨ba, oa, ea, rfl, _, he1, _, c0⟩ := IsS.get (IsIs.stb.to HA.out (same_old hbw)) (by omega) hx
      obtain ⟨bb, ob, eb, rfl, _, he2, _, d0⟩ := IsS.get (IsIs.stb.to HB.out (same_old hbw)) (by omega) hy
      have he1' : ea = .int .i64 (x : Int) := he1
      have he2' : eb = .int .i64 (y : Int) := he2
      subst he1' he2'
      have c1 : wr.cell? ⟨ba, oa + k, none⟩ = some (.int .i64 (x : Int)) := by simpa using c0 0 (.int .i64 (x : Int)) rfl
      have d1 : wr.cell? ⟨bb, ob + k, none⟩ = some (.int .i64 (y : Int)) := by simpa using d0 0 (.int .i64 (y : Int)) rfl
      have Hx := Lib.hid hx
      have Hy := Lib.hid hy
      clear hx hy he1 he2 c0 d0 hbw
      by_cases hxy : x = y
      · have hb1 : (((x : Int)) != (y : Int)) = false := by simp [hxy]
        have Hxy := Lib.hid hxy
        clear hxy
        go_wp2_with fail
        go_quiet (fail)
        go_wp2_with fail
        go_roundw
        case rel =>
          refine ⟨k + 1, by omega, by go_num, ?_, fun j hj => ?_⟩
          · exact below_step Hbw.out (Dr.below ⟨_, rfl⟩ _)
          · rcases Nat.lt_or_ge j k with h | h
            · exact Hrel.out j h
            · obtain rfl : j = k := by omega
              rw [Hx.out, Hy.out, Hxy.out]
        case measure => simp [intOf]; omega
      · have hb1 : (((x : Int)) != (y : Int)) = true := bne_iff_ne.2 (by omega)
        have Hr : Hid (decide (a = b) = false) := decide_eq_false (fun e => hxy (by have h1 := Hx.out; rw [e, Hy.out] at h1; exact (Option.some.inj h1).symm))
        clear hxy
        go_wp2_with fail
        go_quiet (fail)
        go_wp2_with fail
        go_ret
        exact ⟨by show Ending.returned (.bool _) = _; rw [Hr.out], below_step Hbw.out (Dr.below ⟨_, rfl⟩ _)⟩
    · obtain rfl : k = la := by omega
      have Hr : Hid (decide (a = b) = true) := decide_eq_true (list_eq (by rw [← Hla.out, ← Hlb.out]) (fun j hj => Hrel.out j (by rw [Hla.out]; exact hj)))
      clear hbw
      go_wp2_with fail
      go_ret
      exact ⟨by show Ending.returned (.bool _) = _; rw [Hr.out], Hbw.out⟩
end Go.Proofs.YtblpaocignlpkaaGreatDoor
/-
  Contracts of the reference: both, Gap.
-/
namespace Go.Proofs.YtblpaocignlpkaaGreatDoor
open Go.RowKit
set_option linter.unusedVariables false

theorem givE_two {p : Prog} {n m : Nat} {x y : List Raw} : givE p [n, m] [x, y] = if givE p [n] [x] ≠ 0 then givE p [n] [x] else givE p [m] [y] := by
  unfold givE
  by_cases h : chkP p = 0
  · simp only [h, ne_eq, not_true, if_false, List.zipWith_cons_cons, List.zipWith_nil_left, fstE]
    by_cases h1 : vecE n x = 0 <;> by_cases h2 : vecE m y = 0 <;> simp [h1, h2]
  · simp [h]

set_option maxRecDepth 100000 in
set_option maxHeartbeats 2000000 in
theorem rboth_bad {w : World} {vp vx vy : Value} {p : Prog} {x y : List Raw} (hp : IsP w (Old w) vp p) (hx : IsV w (Old w) vx x) (hy : IsV w (Old w) vy y) (h0 : givE p [p.C.length, p.B.length] [x, y] ≠ 0) :
    Calls Tryz.prog 60 #[vp, vx, vy] w fun e w' => e = .returned (.int .i64 (givE p [p.C.length, p.B.length] [x, y])) ∧ Below w.heap.size w w' := by
  have HP := Lib.hid hp
  have HX := Lib.hid hx
  have HY := Lib.hid hy
  obtain ⟨A, cA, B, cB, C, cC, rfl, _, hBv, hC⟩ := id hp
  obtain ⟨D, d, rfl, _⟩ := isV_len hx
  obtain ⟨D2, d2, rfl, _⟩ := isV_len hy
  have mC := (isV_len hC).choose_spec.choose_spec.2
  have mB := (isV_len hBv).choose_spec.choose_spec.2
  obtain ⟨e1, he1⟩ : ∃ e, e = givE p [p.C.length] [x] := ⟨_, rfl⟩
  obtain ⟨e2, he2⟩ : ∃ e, e = givE p [p.B.length] [y] := ⟨_, rfl⟩
  have He1 := Lib.hid he1
  have He2 := Lib.hid he2
  obtain ⟨w0, hw0, hb0, rP, Hz⟩ := boxes1 w #[.slice A p.A.length cA, .slice B p.B.length cB, .slice C p.C.length cC] 27
  have HB0 := Lib.hid hb0
  have RP := Lib.hid rP
  obtain ⟨cP0, cP1, cP2⟩ := cells3 rP
  clear hb0 rP hp hx hy hBv hC
  rw [givE_two, ← he1, ← he2] at h0 ⊢
  clear he1 he2
  by_cases h1 : e1 = 0
  · subst h1
    rw [if_neg (by simp)] at h0 ⊢
    have b2 : (e2 != 0) = true := bne_iff_ne.2 h0
    clear h0
    go_enter Tryz.func60, Tryz.ntmps60
    go_wp2_with fail
    clear hw0
    refine (rone_l (IsP.stb.to HP.out (same_old HB0.out)) (IsV.stb.to HX.out (same_old HB0.out)) mC).mono ?_
    rw [← He1.out]
    rintro e w1 ⟨rfl, hb⟩
    have HB1 := Lib.hid (below_step HB0.out hb)
    have RP1 := Lib.hid (RP.out.next hb)
    clear cP0 cP1 cP2 hb
    obtain ⟨cP0, cP1, cP2⟩ := cells3 RP1.out
    go_wp2_with fail
    refine (rone_l (IsP.stb.to HP.out (same_old HB1.out)) (IsV.stb.to HY.out (same_old HB1.out)) mB).mono ?_
    rw [← He2.out]
    rintro e w2 ⟨rfl, hb⟩
    have HB2 := Lib.hid (below_step HB1.out hb)
    have RP2 := Lib.hid (RP1.out.next hb)
    clear cP0 cP1 cP2 hb
    obtain ⟨cP0, cP1, cP2⟩ := cells3 RP2.out
    go_wp2_with fail
    go_ret
    exact ⟨rfl, HB2.out⟩
  · rw [if_pos h1] at h0 ⊢
    have b1 : (e1 != 0) = true := bne_iff_ne.2 h1
    clear h0 h1
    go_enter Tryz.func60, Tryz.ntmps60
    go_wp2_with fail
    clear hw0
    refine (rone_l (IsP.stb.to HP.out (same_old HB0.out)) (IsV.stb.to HX.out (same_old HB0.out)) mC).mono ?_
    rw [← He1.out]
    rintro e w1 ⟨rfl, hb⟩
    have HB1 := Lib.hid (below_step HB0.out hb)
    have RP1 := Lib.hid (RP.out.next hb)
    clear cP0 cP1 cP2 hb
    obtain ⟨cP0, cP1, cP2⟩ := cells3 RP1.out
    go_wp2_with fail
    go_ret
    exact ⟨rfl, HB1.out⟩

set_option maxRecDepth 100000 in
set_option maxHeartbeats 2000000 in
theorem rboth_good {w : World} {vp vx vy : Value} {q : ProgQ} {x y : List Rat} {r : Int} (hpq : IsP w (Old w) vp (rawP q)) (hx : IsV w (Old w) vx (rawV x)) (hy : IsV w (Old w) vy (rawV y)) (hg : Good q 1024) (h0 : givE (rawP q) [(rawP q).C.length, (rawP q).B.length] [rawV x, rawV y] = 0)
    (hl : x.length = q.C.length) (hsx : ∀ e ∈ x, Sz e 1024) (hly : y.length = q.B.length) (hsy : ∀ e ∈ y, Sz e 1024) (hr : r = if feasB q.A q.B x = true ∧ sufB q.A q.C y = true then 0 else 13) :
    Calls Tryz.prog 60 #[vp, vx, vy] w fun e w' => e = .returned (.int .i64 r) ∧ Below w.heap.size w w' := by
  obtain ⟨p, hpp⟩ : ∃ p, p = rawP q := ⟨_, rfl⟩
  have hp := hpq
  rw [← hpp] at hp h0
  have HQ := Lib.hid hpq
  have Hpp := Lib.hid hpp
  have HG := Lib.hid hg
  have Hl := Lib.hid hl
  have Hsx := Lib.hid hsx
  have Hly := Lib.hid hly
  have Hsy := Lib.hid hsy
  clear hpq hg hl hsx hly hsy
  have n1 : (rawV x).length = x.length := rawV_len x
  have n2 : (rawV y).length = y.length := rawV_len y
  have HP := Lib.hid hp
  have HX := Lib.hid hx
  have HY := Lib.hid hy
  obtain ⟨A, cA, B, cB, C, cC, rfl, _, hBv, hC⟩ := id hp
  obtain ⟨D, d, rfl, _⟩ := isV_len hx
  obtain ⟨D2, d2, rfl, _⟩ := isV_len hy
  have mC := (isV_len hC).choose_spec.choose_spec.2
  have mB := (isV_len hBv).choose_spec.choose_spec.2
  obtain ⟨e1, he1⟩ : ∃ e, e = givE p [p.C.length] [rawV x] := ⟨_, rfl⟩
  obtain ⟨e2, he2⟩ : ∃ e, e = givE p [p.B.length] [rawV y] := ⟨_, rfl⟩
  have He1 := Lib.hid he1
  have He2 := Lib.hid he2
  obtain ⟨w0, hw0, hb0, rP, Hz⟩ := boxes1 w #[.slice A p.A.length cA, .slice B p.B.length cB, .slice C p.C.length cC] 27
  have HB0 := Lib.hid hb0
  have RP := Lib.hid rP
  obtain ⟨cP0, cP1, cP2⟩ := cells3 rP
  clear hb0 rP hp hx hy hBv hC
  rw [givE_two, ← he1, ← he2] at h0
  clear he1 he2
  have h1 : e1 = 0 := by
    by_cases h : e1 = 0
    · exact h
    · rw [if_pos h] at h0
      exact h0
  subst h1
  rw [if_neg (by simp)] at h0
  subst h0
  obtain ⟨g1, hg1⟩ : ∃ b, b = feasB q.A q.B x := ⟨_, rfl⟩
  obtain ⟨g2, hg2⟩ : ∃ b, b = sufB q.A q.C y := ⟨_, rfl⟩
  rw [← hg1, ← hg2] at hr
  have Hg1 : Hid (g1 = (leastB x && leastB (restQ q.A q.B x))) := hg1.trans (feas_rest _ _ _)
  have Hg2 : Hid (g2 = (leastB y && leastB (restQ (dualQ q).A (dualQ q).B y))) := hg2.trans (suf_rest _ _)
  have Hr := Lib.hid hr
  clear hg1 hg2 hr hpp n1 n2
  have HF1 : Hid (∀ W : World, Below w.heap.size w W → Calls Tryz.prog 77 #[.agg #[.slice A p.A.length cA, .slice B p.B.length cB, .slice C p.C.length cC], .slice D (rawV x).length d] W fun e w' => e = .returned (.bool g1) ∧ Below W.heap.size W w') := fun W hW => by
    rw [Hg1.out]
    exact rfeas_l (CC := rawV q.C) (IsP.stb.to HQ.out (same_old hW)) (IsV.stb.to HX.out (same_old hW)) HG.out.rows (fun row h => (HG.out.cols row h).trans Hl.out.symm) HG.out.szA HG.out.szB Hsx.out (by rw [Hl.out]; exact HG.out.nC) HG.out.nB
  have HF2 : Hid (∀ (W : World) (v : Value), Below w.heap.size w W → IsP W (Old W) v (rawP (dualQ q)) → Calls Tryz.prog 77 #[v, .slice D2 (rawV y).length d2] W fun e w' => e = .returned (.bool g2) ∧ Below W.heap.size W w') := fun W v hW hv => by
    rw [Hg2.out]
    have hg := good_dual HG.out
    exact rfeas_l (CC := rawV (dualQ q).C) hv (IsV.stb.to HY.out (same_old hW)) hg.rows (fun row h => (hg.cols row h).trans (by rw [Hly.out]; exact negV_len _)) hg.szA hg.szB Hsy.out (by rw [Hly.out]; exact HG.out.nB) hg.nB
  cases g1
  case false =>
    have Hr2 : Hid (r = 13) := by rw [Hid, Hr.out]; simp
    go_enter Tryz.func60, Tryz.ntmps60
    go_wp2_with fail
    clear hw0
    refine (rone_l (IsP.stb.to HP.out (same_old HB0.out)) (IsV.stb.to HX.out (same_old HB0.out)) mC).mono ?_
    rw [← He1.out]
    rintro e w1 ⟨rfl, hb⟩
    have HB1 := Lib.hid (below_step HB0.out hb)
    have RP1 := Lib.hid (RP.out.next hb)
    clear cP0 cP1 cP2 hb
    obtain ⟨cP0, cP1, cP2⟩ := cells3 RP1.out
    go_wp2_with fail
    refine (rone_l (IsP.stb.to HP.out (same_old HB1.out)) (IsV.stb.to HY.out (same_old HB1.out)) mB).mono ?_
    rw [← He2.out]
    rintro e w2 ⟨rfl, hb⟩
    have HB2 := Lib.hid (below_step HB1.out hb)
    have RP2 := Lib.hid (RP1.out.next hb)
    clear cP0 cP1 cP2 hb
    obtain ⟨cP0, cP1, cP2⟩ := cells3 RP2.out
    go_wp2_with fail
    refine (HF1.out _ HB2.out).mono ?_
    rintro e w3 ⟨rfl, hb⟩
    have HB3 := Lib.hid (below_step HB2.out hb)
    clear hb
    go_wp2_with fail
    go_ret
    exact ⟨ret_int Hr2.out.symm, HB3.out⟩
  case true =>
    cases g2
    all_goals
      go_enter Tryz.func60, Tryz.ntmps60
      go_wp2_with fail
      clear hw0
      refine (rone_l (IsP.stb.to HP.out (same_old HB0.out)) (IsV.stb.to HX.out (same_old HB0.out)) mC).mono ?_
      rw [← He1.out]
      rintro e w1 ⟨rfl, hb⟩
      have HB1 := Lib.hid (below_step HB0.out hb)
      have RP1 := Lib.hid (RP.out.next hb)
      clear cP0 cP1 cP2 hb
      obtain ⟨cP0, cP1, cP2⟩ := cells3 RP1.out
      go_wp2_with fail
      refine (rone_l (IsP.stb.to HP.out (same_old HB1.out)) (IsV.stb.to HY.out (same_old HB1.out)) mB).mono ?_
      rw [← He2.out]
      rintro e w2 ⟨rfl, hb⟩
      have HB2 := Lib.hid (below_step HB1.out hb)
      have RP2 := Lib.hid (RP1.out.next hb)
      clear cP0 cP1 cP2 hb
      obtain ⟨cP0, cP1, cP2⟩ := cells3 RP2.out
      go_wp2_with fail
      refine (HF1.out _ HB2.out).mono ?_
      rintro e w3 ⟨rfl, hb⟩
      have HB3 := Lib.hid (below_step HB2.out hb)
      have RP3 := Lib.hid (RP2.out.next hb)
      clear hb cP0 cP1 cP2
      obtain ⟨cP0, cP1, cP2⟩ := cells3 RP3.out
      go_wp2_with fail
      refine (rof_l (q := q) (by have h := IsP.stb.to HQ.out (same_old HB3.out); exact h) HG.out).mono ?_
      rintro e w4 ⟨⟨v4, rfl, h4⟩, hb⟩
      have HB4 := Lib.hid (below_step HB3.out hb)
      have H4 := Lib.hid h4
      clear hb h4
      go_wp2_with fail
      refine (HF2.out _ _ HB4.out H4.out).mono ?_
      rintro e w5 ⟨rfl, hb⟩
      have HB5 := Lib.hid (below_step HB4.out hb)
      clear hb
      go_wp2_with fail
      go_ret
      exact ⟨ret_int (by rw [Hr.out]; simp), HB5.out⟩

end Go.Proofs.YtblpaocignlpkaaGreatDoor
/-
  The contract of the reference's Slack.
-/
namespace Go.Proofs.YtblpaocignlpkaaGreatDoor
open Go.RowKit
set_option linter.unusedVariables false

theorem sub_zero_iff {a b : Rat} : decide (b - a = 0) = decide (a = b) := by
  rw [Bool.eq_iff_iff, decide_eq_true_eq, decide_eq_true_eq]
  constructor
  · intro h
    have := congrArg (· + a) h
    simp only [Rat.sub_eq_add_neg, Rat.add_assoc, Rat.neg_add_cancel, Rat.add_zero, Rat.zero_add] at this
    exact this.symm
  · intro h
    rw [h, Rat.sub_eq_add_neg, Rat.add_neg_cancel]
theorem rest_dual_get {q : ProgQ} {y : List Rat} {k : Nat} {c : Rat} (hk : k < q.C.length) (hc : q.C[k]? = some c) : (restQ (dualQ q).A (dualQ q).B y)[k]? = some (dotQ (colQ q.A k) y - c) := by
  have e : (dualQ q).B = negV q.C := rfl
  rw [e, restQ_get (dualA_get hk) (negV_get hc), dotQ_neg]
  congr 1
  rw [Rat.sub_eq_add_neg, Rat.neg_neg, Rat.add_comm, Rat.sub_eq_add_neg]

set_option maxRecDepth 100000 in
set_option maxHeartbeats 1000000 in
theorem rslack_err {w : World} {vp vx vy : Value} {p : Prog} {e : Int} (hp : IsP w (Old w) vp p) (hc : ∀ w0, Below w.heap.size w w0 → Calls Tryz.prog 60 #[vp, vx, vy] w0 fun en w' => en = .returned (.int .i64 e) ∧ Below w0.heap.size w0 w') (he : e ≠ 0) :
    Calls Tryz.prog 20 #[vp, vx, vy] w fun en w' => en = .returned (.tuple #[.bool false, .int .i64 e]) ∧ Below w.heap.size w w' := by
  have Hc := Lib.hid hc
  obtain ⟨A, cA, B, cB, C, cC, rfl, _, _, _⟩ := hp
  have e0 : (e != 0) = true := bne_iff_ne.2 he
  clear hc he
  obtain ⟨w0, hw0, hb0, rP, Hz⟩ := boxes1 w #[.slice A p.A.length cA, .slice B p.B.length cB, .slice C p.C.length cC] 27
  have HB0 := Lib.hid hb0
  obtain ⟨cP0, cP1, cP2⟩ := cells3 rP
  clear rP hb0
  go_enter Tryz.func20, Tryz.ntmps20
  go_wp2_with fail
  clear hw0
  refine (Hc.out _ HB0.out).mono ?_
  rintro en w1 ⟨rfl, hb⟩
  go_wp2_with fail
  go_ret2
  exact ⟨rfl, below_step HB0.out hb⟩

set_option maxRecDepth 100000 in
set_option maxHeartbeats 8000000 in
theorem rslack_good {w : World} {vp vx vy : Value} {q : ProgQ} {x y : List Rat} (hp : IsP w (Old w) vp (rawP q)) (hx : IsV w (Old w) vx (rawV x)) (hy : IsV w (Old w) vy (rawV y)) (hg : Good q 1024)
    (hc : ∀ w0, Below w.heap.size w w0 → Calls Tryz.prog 60 #[vp, vx, vy] w0 fun en w' => en = .returned (.int .i64 0) ∧ Below w0.heap.size w0 w')
    (hl : x.length = q.C.length) (hsx : ∀ e ∈ x, Sz e 1024) (hly : y.length = q.B.length) (hsy : ∀ e ∈ y, Sz e 1024) :
    Calls Tryz.prog 20 #[vp, vx, vy] w fun en w' => en = .returned (.tuple #[.bool (slackB q.A q.B q.C x y), .int .i64 0]) ∧ Below w.heap.size w w' := by
  have HX := Lib.hid hx
  have HY := Lib.hid hy
  have HP := Lib.hid hp
  have HG := Lib.hid hg
  have Hl := Lib.hid hl
  have Hly := Lib.hid hly
  have Hc := Lib.hid hc
  have HR1 : Hid (∀ W : World, Below w.heap.size w W → Calls Tryz.prog 67 #[vp, vx] W fun e w' => (∃ v', e = .returned v' ∧ IsV w' (Old w') v' (rawV (restQ q.A q.B x))) ∧ Below W.heap.size W w') :=
    fun W hW => rrest_l (CC := rawV q.C) (IsP.stb.to hp (same_old hW)) (IsV.stb.to hx (same_old hW)) hg.rows (fun row h => (hg.cols row h).trans hl.symm) hg.szA hg.szB hsx (by rw [hl]; exact hg.nC) hg.nB
  have HR2 : Hid (∀ (W : World) (v : Value), Below w.heap.size w W → IsP W (Old W) v (rawP (dualQ q)) → Calls Tryz.prog 67 #[v, vy] W fun e w' => (∃ v', e = .returned v' ∧ IsV w' (Old w') v' (rawV (restQ (dualQ q).A (dualQ q).B y))) ∧ Below W.heap.size W w') :=
    fun W v hW hv => rrest_l (CC := rawV (dualQ q).C) hv (IsV.stb.to hy (same_old hW)) (good_dual hg).rows (fun row h => ((good_dual hg).cols row h).trans (by rw [hly]; exact negV_len _)) (good_dual hg).szA (good_dual hg).szB hsy (by rw [hly]; exact hg.nB) (good_dual hg).nB
  obtain ⟨A, cA, B, cB, C, cC, rfl, hA, hBv, hC⟩ := hp
  obtain ⟨E, e1, rfl, _⟩ := isV_len hx
  obtain ⟨F, f1, rfl, _⟩ := isV_len hy
  obtain ⟨M, hM⟩ : ∃ m, m = q.B.length := ⟨_, rfl⟩
  obtain ⟨n, hn⟩ : ∃ m, m = q.C.length := ⟨_, rfl⟩
  simp only [rawP, rawV_len, rawM_len] at HX HY HP Hc HR1 HR2 ⊢
  rw [hl, ← hn] at HX
  rw [hly, ← hM] at HY
  rw [hg.rows, ← hM, ← hn] at HP
  rw [hg.rows, hl, ← hM, ← hn] at HR1
  rw [hly, ← hM] at HR2
  rw [hg.rows, hl, hly, ← hM, ← hn] at Hc ⊢
  have hM40 : M ≤ 40 := by rw [hM]; exact hg.nB
  have hn40 : n ≤ 40 := by rw [hn]; exact hg.nC
  have HM := Lib.hid hM
  have Hn := Lib.hid hn
  clear hx hy hg hc hl hsx hly hsy hA hBv hC hM hn
  obtain ⟨w0, hw0, hb0, rP, Hz⟩ := boxes1 w #[.slice A M cA, .slice B M cB, .slice C n cC] 27
  have HB0 := Lib.hid hb0
  have RP := Lib.hid rP
  obtain ⟨cP0, cP1, cP2⟩ := cells3 rP
  clear rP hb0
  go_enter Tryz.func20, Tryz.ntmps20
  go_wp2_with fail
  clear hw0
  refine (Hc.out _ HB0.out).mono ?_
  rintro en w1 ⟨rfl, hb⟩
  have Hb1 := Lib.hid (below_step HB0.out hb)
  have RP1 := Lib.hid (RP.out.next hb)
  clear hb cP0 cP1 cP2
  obtain ⟨cP0, cP1, cP2⟩ := cells3 RP1.out
  go_wp2_with fail
  have HS : Hid (∀ W : World, Below w1.heap.size w1 W → W.cell? ⟨w.heap.size, 0, none⟩ = some (.slice A M cA) ∧ W.cell? ⟨w.heap.size, 1, none⟩ = some (.slice B M cB) ∧ W.cell? ⟨w.heap.size, 2, none⟩ = some (.slice C n cC)) := fun W hW => ⟨keep_cell hW cP0, keep_cell hW cP1, keep_cell hW cP2⟩
  have D3 : Hid (∀ W : World, Below w1.heap.size w1 W → Calls Tryz.prog 67 #[.agg #[.slice A M cA, .slice B M cB, .slice C n cC], .slice E n e1] W (fun e w' => (∃ v', e = .returned v' ∧ IsV w' (Old w') v' (rawV (restQ q.A q.B x))) ∧ Below W.heap.size W w')) := fun W hW => HR1.out _ (below_step Hb1.out (show Below w1.heap.size w1 W from (by (repeat (first | exact Below.refl _ _ | assumption | refine below_allocR ?_ _ | refine below_drewR ?_ | refine below_put3X ?_ ?_ _ _ _ | refine below_setG ?_ (by omega) | refine below_step ?_ (by assumption))); (first | done | fail))))
  go_region_held3 (fun w' => w'.cell? ⟨w.heap.size, 0, none⟩ = some (.slice A M cA) ∧ w'.cell? ⟨w.heap.size, 1, none⟩ = some (.slice B M cB) ∧ w'.cell? ⟨w.heap.size, 2, none⟩ = some (.slice C n cC))
    (exact HS.out _ (by (repeat (first | exact Below.refl _ _ | assumption | refine below_allocR ?_ _ | refine below_drewR ?_ | refine below_put3X ?_ ?_ _ _ _ | refine below_setG ?_ (by omega) | refine below_step ?_ (by assumption))); (first | done | fail)))
    (first
      | (go_at_call 67; (with_reducible refine Calls.mono (D3.out _ (by (repeat (first | exact Below.refl _ _ | assumption | refine below_allocR ?_ _ | refine below_drewR ?_ | refine below_put3X ?_ ?_ _ _ _ | refine below_setG ?_ (by omega) | refine below_step ?_ (by assumption))); (first | done | fail))) ?_); rintro e w3 ⟨⟨v3, rfl, hv3⟩, hb3⟩; have V3 := Lib.hid hv3; obtain ⟨P3, k3, rfl, _⟩ := isV_len hv3; have D4 : Hid (∀ W : World, Below w3.heap.size w3 W → Calls Tryz.prog 68 #[.agg #[.slice A M cA, .slice B M cB, .slice C n cC]] W (fun e w' => (∃ v, e = .returned v ∧ IsP w' (Old w') v (rawP (dualQ q))) ∧ Below W.heap.size W w')) := fun W hW => rof_l (IsP.stb.to HP.out (same_old (below_step Hb1.out (show Below w1.heap.size w1 W from (by (repeat (first | exact Below.refl _ _ | assumption | refine below_allocR ?_ _ | refine below_drewR ?_ | refine below_put3X ?_ ?_ _ _ _ | refine below_setG ?_ (by omega) | refine below_step ?_ (by assumption))); (first | done | fail)))))) HG.out)
      | (go_at_call 68; (with_reducible refine Calls.mono (D4.out _ (by (repeat (first | exact Below.refl _ _ | assumption | refine below_allocR ?_ _ | refine below_drewR ?_ | refine below_put3X ?_ ?_ _ _ _ | refine below_setG ?_ (by omega) | refine below_step ?_ (by assumption))); (first | done | fail))) ?_); rintro e w4 ⟨⟨v4, rfl, hv4⟩, hb4⟩; have V4 := Lib.hid hv4; have D5 : Hid (∀ W : World, Below w4.heap.size w4 W → Calls Tryz.prog 67 #[v4, .slice F M f1] W (fun e w' => (∃ v', e = .returned v' ∧ IsV w' (Old w') v' (rawV (restQ (dualQ q).A (dualQ q).B y))) ∧ Below W.heap.size W w')) := fun W hW => HR2.out _ _ (below_step Hb1.out (show Below w1.heap.size w1 W from (by (repeat (first | exact Below.refl _ _ | assumption | refine below_allocR ?_ _ | refine below_drewR ?_ | refine below_put3X ?_ ?_ _ _ _ | refine below_setG ?_ (by omega) | refine below_step ?_ (by assumption))); (first | done | fail)))) (IsP.stb.next V4.out hW))
      | (go_at_call 67; (with_reducible refine Calls.mono (D5.out _ (by (repeat (first | exact Below.refl _ _ | assumption | refine below_allocR ?_ _ | refine below_drewR ?_ | refine below_put3X ?_ ?_ _ _ _ | refine below_setG ?_ (by omega) | refine below_step ?_ (by assumption))); (first | done | fail))) ?_); rintro e w5 ⟨⟨v5, rfl, hv5⟩, hb5⟩; have V5 := Lib.hid hv5; obtain ⟨P5, k5, rfl, _⟩ := isV_len hv5))
  have R5 := Lib.hid (IsV.stb.next V3.out (show Below w3.heap.size w3 w5 from (by (repeat (first | exact Below.refl _ _ | assumption | refine below_allocR ?_ _ | refine below_drewR ?_ | refine below_put3X ?_ ?_ _ _ _ | refine below_setG ?_ (by omega) | refine below_step ?_ (by assumption))); (first | done | fail))))
  have hB5 : Below w1.heap.size w1 w5 := (by (repeat (first | exact Below.refl _ _ | assumption | refine below_allocR ?_ _ | refine below_drewR ?_ | refine below_put3X ?_ ?_ _ _ _ | refine below_setG ?_ (by omega) | refine below_step ?_ (by assumption))); (first | done | fail))
  have HW5 := Lib.hid (below_step Hb1.out hB5)
  have C5 := Lib.hid V5.out
  have l3 : (rawV (restQ q.A q.B x)).length = M := by rw [rawV_len, restQ_len HG.out.rows, ← HM.out]
  have l5 : (rawV (restQ (dualQ q).A (dualQ q).B y)).length = n := by rw [rawV_len, restQ_len (good_dual HG.out).rows, Hn.out]; exact negV_len _
  rw [l3] at R5 ⊢
  rw [l5] at C5 ⊢
  have L3 := Lib.hid l3
  have L5 := Lib.hid l5
  clear HS D3 D4 D5 hv3 hv4 hv5 V3 V4 V5 hb3 hb4 hb5 hB5 cP0 cP1 cP2 l3 l5
  go_wp2_with fail
  go_loopw [11] (fun i wr => ∃ j : Nat, j ≤ M ∧ i = .int .i64 (j : Int) ∧ Below w5.heap.size w5 wr ∧ Hid (∀ i, i < j → okRow q.A q.B x y i = true)) (fun i _ => M - (intOf i).toNat)
  case atStart => exact ⟨0, Nat.zero_le _, rfl, Below.refl _ _, fun i hi => by omega⟩
  case round =>
    obtain ⟨j, hj, rfl, hbw, hrel⟩ := hrel
    have Hbw := Lib.hid hbw
    have Hrel := Lib.hid hrel.out
    have HW := Lib.hid (below_step HW5.out hbw)
    clear hrel
    rcases Nat.lt_or_ge j M with hlt | hge
    · obtain ⟨row, hr, _⟩ := rawM_get (m := q.A) (j := j) (by rw [HG.out.rows, ← HM.out]; exact hlt)
      obtain ⟨b, hb, _⟩ := rawV_get (l := q.B) (j := j) (by rw [← HM.out]; exact hlt)
      obtain ⟨z, hz, hzr⟩ := rawV_get (l := y) (j := j) (by rw [Hly.out, ← HM.out]; exact hlt)
      have hrs : (rawV (restQ q.A q.B x))[j]? = some (raw (b - dotQ row x)) := by unfold rawV; rw [List.getElem?_map, restQ_get hr hb]; rfl
      obtain ⟨d, hd⟩ : ∃ d, d = b - dotQ row x := ⟨_, rfl⟩
      rw [← hd] at hrs
      obtain ⟨b1, o1, X1, X2, X3, X4, rfl, _, helb, c0, c1, c2⟩ := isV_get (IsV.stb.to R5.out (same_old hbw)) hrs
      obtain ⟨b3, o3, Z1, Z2, Z3, Z4, rfl, _, helz, z0, z1, z2⟩ := isV_get (IsV.stb.to HY.out (same_old HW.out)) hzr
      obtain ⟨bb0, hbb0⟩ : ∃ s, s = (raw d).neg := ⟨_, rfl⟩
      obtain ⟨bb1, hbb1⟩ : ∃ s, s = (raw d).num.length := ⟨_, rfl⟩
      obtain ⟨bb2, hbb2⟩ : ∃ s, s = (raw d).den.length := ⟨_, rfl⟩
      rw [← hbb0] at c0
      rw [← hbb1] at c1
      rw [← hbb2] at c2
      rw [← hbb0, ← hbb1, ← hbb2] at helb
      clear hbb0 hbb1 hbb2
      obtain ⟨zz0, hzz0⟩ : ∃ s, s = (raw z).neg := ⟨_, rfl⟩
      obtain ⟨zz1, hzz1⟩ : ∃ s, s = (raw z).num.length := ⟨_, rfl⟩
      obtain ⟨zz2, hzz2⟩ : ∃ s, s = (raw z).den.length := ⟨_, rfl⟩
      rw [← hzz0] at z0
      rw [← hzz1] at z1
      rw [← hzz2] at z2
      rw [← hzz0, ← hzz1, ← hzz2] at helz
      clear hzz0 hzz1 hzz2
      have QD := Lib.hid (isR_isQ helb)
      have QZ := Lib.hid (isR_isQ helz)
      have Hok : Hid (okRow q.A q.B x y j = (decide (z = 0) || decide (d = 0))) := by rw [Hid, okRow, getD_some hz, getD_some hb, getD_row hr, hd, sub_zero_iff]
      obtain ⟨v1, hv1⟩ : ∃ v, v = decide (z = 0) := ⟨_, rfl⟩
      obtain ⟨v2, hv2⟩ : ∃ v, v = decide (d = 0) := ⟨_, rfl⟩
      rw [← hv1, ← hv2] at Hok
      have Hv1 := Lib.hid hv1
      have Hv2 := Lib.hid hv2
      have cr := ratCells
      clear hr hb hz hrs hzr helb helz hd hv1 hv2 hbw
      cases v2 with
      | true =>
        go_wp2_with fail
        refine (rzero_q QD.out).mono ?_
        rw [← Hv2.out]
        rintro e w6 ⟨rfl, hb6⟩
        have HB6 := Lib.hid (below_step Hbw.out hb6)
        replace z0 := keep_cell hb6 z0
        replace z1 := keep_cell hb6 z1
        replace z2 := keep_cell hb6 z2
        have QZ6 := Lib.hid (IsQ.stb.next QZ.out hb6)
        clear hb6 c0 c1 c2
        go_wp2_with fail
        go_roundw
        case rel =>
          refine ⟨j + 1, by omega, by go_num, HB6.out, fun i hi => ?_⟩
          rcases Nat.lt_or_ge i j with h | h
          · exact Hrel.out i h
          · obtain rfl : i = j := by omega
            rw [Hok.out, Bool.or_true]
        case measure => simp [intOf]; omega
      | false =>
        cases v1 with
        | true =>
          go_wp2_with fail
          refine (rzero_q QD.out).mono ?_
          rw [← Hv2.out]
          rintro e w6 ⟨rfl, hb6⟩
          have HB6 := Lib.hid (below_step Hbw.out hb6)
          replace z0 := keep_cell hb6 z0
          replace z1 := keep_cell hb6 z1
          replace z2 := keep_cell hb6 z2
          have QZ6 := Lib.hid (IsQ.stb.next QZ.out hb6)
          clear hb6 c0 c1 c2
          go_wp2_with fail
          refine (rzero_q QZ6.out).mono ?_
          rw [← Hv1.out]
          rintro e w7 ⟨rfl, hb7⟩
          have HB7 := Lib.hid (below_step HB6.out hb7)
          clear hb7
          go_wp2_with fail
          go_roundw
          case rel =>
            refine ⟨j + 1, by omega, by go_num, HB7.out, fun i hi => ?_⟩
            rcases Nat.lt_or_ge i j with h | h
            · exact Hrel.out i h
            · obtain rfl : i = j := by omega
              rw [Hok.out]; rfl
          case measure => simp [intOf]; omega
        | false =>
          go_wp2_with fail
          refine (rzero_q QD.out).mono ?_
          rw [← Hv2.out]
          rintro e w6 ⟨rfl, hb6⟩
          have HB6 := Lib.hid (below_step Hbw.out hb6)
          replace z0 := keep_cell hb6 z0
          replace z1 := keep_cell hb6 z1
          replace z2 := keep_cell hb6 z2
          have QZ6 := Lib.hid (IsQ.stb.next QZ.out hb6)
          clear hb6 c0 c1 c2
          go_wp2_with fail
          refine (rzero_q QZ6.out).mono ?_
          rw [← Hv1.out]
          rintro e w7 ⟨rfl, hb7⟩
          have HB7 := Lib.hid (below_step HB6.out hb7)
          clear hb7
          go_wp2_with fail
          have Hr : Hid (slackB q.A q.B q.C x y = false) := by rw [Hid, slackB_eq, all_range_not (k := j) (by rw [← HM.out]; exact hlt) Hok.out]; rfl
          go_ret2
          exact ⟨by rw [Hr.out]; rfl, below_step HW5.out HB7.out⟩
    · obtain rfl : j = M := by omega
      have Hbw0 := Lib.hid Hbw.out
      have Hrows : Hid ((List.range q.B.length).all (okRow q.A q.B x y) = true) := all_range_of (by rw [← HM.out]; exact Hrel.out)
      obtain ⟨wo, hwo⟩ : ∃ x, x = wr := ⟨_, rfl⟩
      subst hwo
      clear hbw Hrel
      go_wp2_with fail
      go_loopw [12] (fun i wr => ∃ k : Nat, k ≤ n ∧ i = .int .i64 (k : Int) ∧ Below wo.heap.size wo wr ∧ Hid (∀ i, i < k → okCol q.A q.C x y i = true)) (fun i _ => n - (intOf i).toNat)
      case atStart => exact ⟨0, Nat.zero_le _, rfl, Below.refl _ _, fun i hi => by omega⟩
      case round =>
        obtain ⟨k, hk, rfl, hbw2, hrel⟩ := hrel
        have Hbw := Lib.hid hbw2
        have Hrel := Lib.hid hrel.out
        have HW2 := Lib.hid (below_step HW.out hbw2)
        clear hrel
        rcases Nat.lt_or_ge k n with hlt | hge
        · obtain ⟨c, hc, _⟩ := rawV_get (l := q.C) (j := k) (by rw [← Hn.out]; exact hlt)
          obtain ⟨z, hz, hzr⟩ := rawV_get (l := x) (j := k) (by rw [Hl.out, ← Hn.out]; exact hlt)
          have hrs : (rawV (restQ (dualQ q).A (dualQ q).B y))[k]? = some (raw (dotQ (colQ q.A k) y - c)) := by unfold rawV; rw [List.getElem?_map, rest_dual_get (by rw [← Hn.out]; exact hlt) hc]; rfl
          obtain ⟨d, hd⟩ : ∃ d, d = dotQ (colQ q.A k) y - c := ⟨_, rfl⟩
          rw [← hd] at hrs
          obtain ⟨b1, o1, X1, X2, X3, X4, rfl, _, helb, c0, c1, c2⟩ := isV_get (IsV.stb.to C5.out (same_old (below_step Hbw0.out hbw2))) hrs
          obtain ⟨b3, o3, Z1, Z2, Z3, Z4, rfl, _, helz, z0, z1, z2⟩ := isV_get (IsV.stb.to HX.out (same_old HW2.out)) hzr
          obtain ⟨bb0, hbb0⟩ : ∃ s, s = (raw d).neg := ⟨_, rfl⟩
          obtain ⟨bb1, hbb1⟩ : ∃ s, s = (raw d).num.length := ⟨_, rfl⟩
          obtain ⟨bb2, hbb2⟩ : ∃ s, s = (raw d).den.length := ⟨_, rfl⟩
          rw [← hbb0] at c0
          rw [← hbb1] at c1
          rw [← hbb2] at c2
          rw [← hbb0, ← hbb1, ← hbb2] at helb
          clear hbb0 hbb1 hbb2
          obtain ⟨zz0, hzz0⟩ : ∃ s, s = (raw z).neg := ⟨_, rfl⟩
          obtain ⟨zz1, hzz1⟩ : ∃ s, s = (raw z).num.length := ⟨_, rfl⟩
          obtain ⟨zz2, hzz2⟩ : ∃ s, s = (raw z).den.length := ⟨_, rfl⟩
          rw [← hzz0] at z0
          rw [← hzz1] at z1
          rw [← hzz2] at z2
          rw [← hzz0, ← hzz1, ← hzz2] at helz
          clear hzz0 hzz1 hzz2
          have QD := Lib.hid (isR_isQ helb)
          have QZ := Lib.hid (isR_isQ helz)
          have Hok : Hid (okCol q.A q.C x y k = (decide (z = 0) || decide (d = 0))) := by rw [Hid, okCol, getD_some hz, getD_some hc, hd, sub_zero_iff]; congr 1; exact decide_eq_decide.2 eq_comm
          obtain ⟨v1, hv1⟩ : ∃ v, v = decide (z = 0) := ⟨_, rfl⟩
          obtain ⟨v2, hv2⟩ : ∃ v, v = decide (d = 0) := ⟨_, rfl⟩
          rw [← hv1, ← hv2] at Hok
          have Hv1 := Lib.hid hv1
          have Hv2 := Lib.hid hv2
          have cr := ratCells
          clear hc hz hrs hzr helb helz hd hv1 hv2 hbw2
          cases v2 with
          | true =>
            go_wp2_with fail
            refine (rzero_q QD.out).mono ?_
            rw [← Hv2.out]
            rintro e w6 ⟨rfl, hb6⟩
            have HB6 := Lib.hid (below_step Hbw.out hb6)
            replace z0 := keep_cell hb6 z0
            replace z1 := keep_cell hb6 z1
            replace z2 := keep_cell hb6 z2
            have QZ6 := Lib.hid (IsQ.stb.next QZ.out hb6)
            clear hb6 c0 c1 c2
            go_wp2_with fail
            go_roundw
            case rel =>
              refine ⟨k + 1, by omega, by go_num, HB6.out, fun i hi => ?_⟩
              rcases Nat.lt_or_ge i k with h | h
              · exact Hrel.out i h
              · obtain rfl : i = k := by omega
                rw [Hok.out, Bool.or_true]
            case measure => simp [intOf]; omega
          | false =>
            cases v1 with
            | true =>
              go_wp2_with fail
              refine (rzero_q QD.out).mono ?_
              rw [← Hv2.out]
              rintro e w6 ⟨rfl, hb6⟩
              have HB6 := Lib.hid (below_step Hbw.out hb6)
              replace z0 := keep_cell hb6 z0
              replace z1 := keep_cell hb6 z1
              replace z2 := keep_cell hb6 z2
              have QZ6 := Lib.hid (IsQ.stb.next QZ.out hb6)
              clear hb6 c0 c1 c2
              go_wp2_with fail
              refine (rzero_q QZ6.out).mono ?_
              rw [← Hv1.out]
              rintro e w7 ⟨rfl, hb7⟩
              have HB7 := Lib.hid (below_step HB6.out hb7)
              clear hb7
              go_wp2_with fail
              go_roundw
              case rel =>
                refine ⟨k + 1, by omega, by go_num, HB7.out, fun i hi => ?_⟩
                rcases Nat.lt_or_ge i k with h | h
                · exact Hrel.out i h
                · obtain rfl : i = k := by omega
                  rw [Hok.out]; rfl
              case measure => simp [intOf]; omega
            | false =>
              go_wp2_with fail
              refine (rzero_q QD.out).mono ?_
              rw [← Hv2.out]
              rintro e w6 ⟨rfl, hb6⟩
              have HB6 := Lib.hid (below_step Hbw.out hb6)
              replace z0 := keep_cell hb6 z0
              replace z1 := keep_cell hb6 z1
              replace z2 := keep_cell hb6 z2
              have QZ6 := Lib.hid (IsQ.stb.next QZ.out hb6)
              clear hb6 c0 c1 c2
              go_wp2_with fail
              refine (rzero_q QZ6.out).mono ?_
              rw [← Hv1.out]
              rintro e w7 ⟨rfl, hb7⟩
              have HB7 := Lib.hid (below_step HB6.out hb7)
              clear hb7
              go_wp2_with fail
              have Hr : Hid (slackB q.A q.B q.C x y = false) := by rw [Hid, slackB_eq, all_range_not (n := q.C.length) (k := k) (by rw [← Hn.out]; exact hlt) Hok.out, Bool.and_false]
              go_ret2
              exact ⟨by rw [Hr.out]; rfl, below_step HW.out HB7.out⟩
        · obtain rfl : k = n := by omega
          have Hr : Hid (slackB q.A q.B q.C x y = true) := by rw [Hid, slackB_eq, Hrows.out, all_range_of (by rw [← Hn.out]; exact Hrel.out)]; rfl
          clear hbw2
          go_wp2_with fail
          go_ret2
          exact ⟨by rw [Hr.out]; rfl, HW2.out⟩
end Go.Proofs.YtblpaocignlpkaaGreatDoor
