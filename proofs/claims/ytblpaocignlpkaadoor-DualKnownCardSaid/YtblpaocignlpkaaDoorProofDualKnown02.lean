/-
  The contract of package dual's Tight.
-/
import Derived.Test.YtblpaocignlpkaaDoorProofDualKnown01
import Derived.Test.YtblpaocignlpkaaDoorBase12
import Derived.Test.YtblpaocignlpkaaDoorBase13
import Derived.Test.YtblpaocignlpkaaDoorBase16
namespace Go.Proofs.YtblpaocignlpkaaDoor
open Go.RowKit
set_option linter.unusedVariables false

/-- An int of a list. -/
def IsI (w : World) (S : Nat → Prop) (v : Value) (n : Nat) : Prop := v = .int .i64 (n : Int)
theorem IsI.stb : Stb IsI := fun _ _ _ _ _ _ h _ => h
abbrev IsIs : World → (Nat → Prop) → Value → List Nat → Prop := IsS 1 IsI
theorem IsIs.stb : Stb IsIs := IsS.stb IsI.stb
theorem int_info : (Tryd.prog.info? 3).map (fun i => (i.zero, i.size, i.bytes)) = some (some (.int .i64 0), 1, 8) := by kernel_rfl
theorem elI : ElN Tryd.prog 22 3 1 8 :=
  ⟨Tryd.underlying22, by obtain ⟨i, h1, h2, h3, h4⟩ := info_parts int_info; exact ⟨i, _, h1, h2, h3, h4, rfl⟩, by omega⟩
/-- The rows that are equations at a point. -/
def isTight (A : List (List Rat)) (B x : List Rat) (i : Nat) : Bool := decide (dotQ (A.getD i []) x = B.getD i 0)
def tightTo (A : List (List Rat)) (B x : List Rat) (n : Nat) : List Nat := (List.range n).filter (isTight A B x)
theorem tightTo_in {A : List (List Rat)} {B x : List Rat} {n : Nat} (h : isTight A B x n = true) : tightTo A B x (n + 1) = tightTo A B x n ++ [n] := by
  unfold tightTo
  rw [List.range_succ, List.filter_append, List.filter_cons, if_pos h, List.filter_nil]
theorem tightTo_out {A : List (List Rat)} {B x : List Rat} {n : Nat} (h : isTight A B x n = false) : tightTo A B x (n + 1) = tightTo A B x n := by
  unfold tightTo
  rw [List.range_succ, List.filter_append, List.filter_cons, if_neg (by rw [h]; simp), List.filter_nil, List.append_nil]
theorem tightTo_len (A : List (List Rat)) (B x : List Rat) (n : Nat) : (tightTo A B x n).length ≤ n := by
  unfold tightTo
  exact Nat.le_trans (List.length_filter_le _ _) (by rw [List.length_range]; exact Nat.le_refl _)
/-- What Tight returns of a point that is right. -/
def tightR (q : ProgQ) (x : List Rat) : List Nat := if feasB q.A q.B x then tightTo q.A q.B x q.B.length else []
def tightE (q : ProgQ) (x : List Rat) : Int := if feasB q.A q.B x then 0 else 13
theorem cmp_eq {a b : Rat} : (cmpQ a b == 0) = decide (a = b) := by
  have := @cmp_ne a b
  rw [bne] at this
  exact Bool.not_inj this

set_option maxHeartbeats 1000000 in
theorem tight_err {w : World} {vp vx : Value} {p : Prog} {x : List Raw} (hp : IsP w (Old w) vp p) (hx : IsV w (Old w) vx x) (hB : Bru w) (h0 : givE p [p.C.length] [x] ≠ 0) :
    Calls Tryd.prog 16 #[vp, vx] w fun e w' => e = .returned (.tuple #[.slice none 0 0, .int .i64 (givE p [p.C.length] [x])]) ∧ Below w.heap.size w w' := by
  have hp2 := hp
  have HX := Lib.hid hx
  have HP := Lib.hid hp2
  have HB := Lib.hid hB
  obtain ⟨A, cA, B, cB, C, cC, rfl, _, _, hC⟩ := id hp2
  obtain ⟨D, d, rfl, hxl⟩ := isV_len hx
  have hcl := (isV_len hC).choose_spec.choose_spec.2
  obtain ⟨E, hE⟩ : ∃ E, E = givE p [p.C.length] [x] := ⟨_, rfl⟩
  rw [← hE] at h0
  have HE := Lib.hid hE
  clear hp hx hB hC hE hp2
  obtain ⟨w0, hw0, hb0, rP, rN, rL, Hz⟩ := boxes3 w #[.slice A p.A.length cA, .slice B p.B.length cB, .slice C p.C.length cC] #[.int .i64 (p.C.length : Int)] #[.slice D (x).length d] 31 3 29
  have Hc := Lib.hid (given_l (IsP.stb.to HP.out (same_old hb0)) (nsIn1 rN) (isM_row1 rL (IsV.stb.to HX.out (same_old hb0))) (Bru.next HB.out hb0) rfl (by intro m hm; simp at hm; omega) (by simp))
  have HB0 := Lib.hid hb0
  have RP := Lib.hid rP
  obtain ⟨cP0, cP1, cP2⟩ := cells3 rP
  clear rP rN rL hb0
  have e0 : (E != 0) = true := bne_iff_ne.2 h0
  rw [← HE.out]
  clear h0
  go_enter Tryd.func16, Tryd.ntmps16
  go_wp2_with fail
  clear hw0
  refine Hc.out.mono ?_
  rw [← HE.out]
  rintro e w1 ⟨rfl, hb⟩
  have Hb1 := Lib.hid (below_step HB0.out hb)
  clear hb cP0 cP1 cP2
  go_wp2_with fail
  go_ret2
  exact ⟨rfl, Hb1.out⟩

set_option maxRecDepth 100000 in
set_option maxHeartbeats 4000000 in
theorem tight_good {w : World} {vp vx : Value} {q : ProgQ} {x : List Rat} (hp : IsP w (Old w) vp (rawP q)) (hx : IsV w (Old w) vx (rawV x)) (hB : Bru w) (hg : Good q 1024) (h0 : givE (rawP q) [(rawP q).C.length] [rawV x] = 0) (hl : x.length = q.C.length) (hsx : ∀ e ∈ x, Sz e 1024) :
    Calls Tryd.prog 16 #[vp, vx] w fun e w' => (∃ v, e = .returned (.tuple #[v, .int .i64 (tightE q x)]) ∧ IsIs w' (Old w') v (tightR q x)) ∧ Below w.heap.size w w' := by
  obtain ⟨p, hpp⟩ : ∃ p, p = rawP q := ⟨_, rfl⟩
  have HQ := Lib.hid hp
  have HX := Lib.hid hx
  have HG := Lib.hid hg
  have Hl := Lib.hid hl
  have Hsx := Lib.hid hsx
  have HB := Lib.hid hB
  have HE := Lib.hid h0
  obtain ⟨A, cA, B, cB, C, cC, rfl, hA, hBv, hC⟩ := hp
  obtain ⟨D, d, rfl, hxl⟩ := isV_len hx
  have hcl := (isV_len hC).choose_spec.choose_spec.2
  obtain ⟨M, hM⟩ : ∃ m, m = q.B.length := ⟨_, rfl⟩
  obtain ⟨n, hn⟩ : ∃ m, m = q.C.length := ⟨_, rfl⟩
  have hM40 : M ≤ 40 := by rw [hM]; exact hg.nB
  have hn40 : n ≤ 40 := by rw [hn]; exact hg.nC
  simp only [rawP, rawV_len, rawM_len] at hA hBv hC HQ HX hcl ⊢
  rw [hg.rows, ← hM, ← hn] at HQ
  rw [hg.rows, ← hM] at hA
  rw [← hM] at hBv
  rw [hl, ← hn] at HX
  rw [hg.rows, hl, ← hM, ← hn]
  have HM := Lib.hid hM
  have Hn := Lib.hid hn
  have HA := Lib.hid hA
  have HBv := Lib.hid hBv
  clear hx hB hC hA hBv hg h0 hl hsx hM hn hxl hcl hpp
  obtain ⟨w0, hw0, hb0, rP, rN, rL, Hz⟩ := boxes3 w #[.slice A M cA, .slice B M cB, .slice C n cC] #[.int .i64 (n : Int)] #[.slice D n d] 31 3 29
  have Hc := Lib.hid (given_l (p := rawP q) (ns := [(rawP q).C.length]) (ls := [rawV x]) (IsP.stb.to HQ.out (same_old hb0)) (nsIn1 (by simp only [rawP, rawV_len]; rw [← Hn.out]; exact rN)) (isM_row1 rL (IsV.stb.to HX.out (same_old hb0))) (Bru.next HB.out hb0) rfl (by intro m hm; simp only [rawP, rawV_len, List.mem_singleton] at hm; rw [← Hn.out] at hm; omega) (by simp))
  have HB0 := Lib.hid hb0
  have RP := Lib.hid rP
  obtain ⟨cP0, cP1, cP2⟩ := cells3 rP
  clear rP rN rL hb0
  obtain ⟨b1, hb1⟩ : ∃ b, b = feasB q.A q.B x := ⟨_, rfl⟩
  have Hb1q := Lib.hid hb1
  unfold tightE tightR
  rw [← hb1, ← HM.out]
  clear hb1
  go_enter Tryd.func16, Tryd.ntmps16
  go_wp2_with fail
  clear hw0
  refine Hc.out.mono ?_
  rw [HE.out]
  rintro e w1 ⟨rfl, hb⟩
  have Hb1 := Lib.hid (below_step HB0.out hb)
  have RP1 := Lib.hid (RP.out.next hb)
  clear hb cP0 cP1 cP2
  obtain ⟨cP0, cP1, cP2⟩ := cells3 RP1.out
  obtain ⟨w2, hw2, hb2, rS, Hz2⟩ := boxes1 w1 #[.slice A M cA, .slice B M cB, .slice C n cC] 86
  have Hb2 := Lib.hid (below_step Hb1.out hb2)
  have RP2 := Lib.hid (RP1.out.next hb2)
  obtain ⟨cS0, cS1, cS2⟩ := cells3 rS
  clear rS hb2
  go_wp2_with fail
  clear hw2
  refine (feasible_l (IsP.stb.to HQ.out (same_old Hb2.out)) (IsV.stb.to HX.out (same_old Hb2.out)) (Bru.next HB.out Hb2.out) HG.out Hl.out Hsx.out).mono ?_
  rw [← Hb1q.out]
  rintro e w3 ⟨rfl, hb⟩
  have Hb3 := Lib.hid (below_step Hb2.out hb)
  have RP3 := Lib.hid (RP2.out.next hb)
  clear hb cS0 cS1 cS2 cP0 cP1 cP2
  obtain ⟨cP0, cP1, cP2⟩ := cells3 RP3.out
  cases b1 with
  | false =>
    go_wp2_with fail
    go_ret2
    exact ⟨⟨_, rfl, IsS.nil⟩, Hb3.out⟩
  | true =>
    go_wp2_with fail
    clear cP0 cP1 cP2
    go_loopw [31, 9, 10, 8] (fun i ii rr ov wr => ∃ j : Nat, j ≤ M ∧ i = .int .i64 (j : Int) ∧ Below w3.heap.size w3 wr ∧ Hid (OwnS 1 3 IsI wr w3.heap.size (fun _ => False) ov (tightTo q.A q.B x j))) (fun i _ _ _ _ => M - (intOf i).toNat)
    case atStart => exact ⟨0, Nat.zero_le _, rfl, Below.refl _ _, OwnS.nil (fun b hb => hb.elim)⟩
    case round =>
      obtain ⟨j, hj, rfl, hbw, hrel⟩ := hrel
      have Hbw := Lib.hid hbw
      have Own := Lib.hid hrel.out
      have HW := Lib.hid (below_step Hb3.out hbw)
      obtain ⟨cP0, cP1, cP2⟩ := cells3 (RP3.out.next hbw)
      clear hrel
      rcases Nat.lt_or_ge j M with hlt | hge
      · obtain ⟨row, hr, hrr⟩ := rawM_get (m := q.A) (j := j) (by rw [HG.out.rows, ← HM.out]; exact hlt)
        obtain ⟨b, hb, hbr⟩ := rawV_get (l := q.B) (j := j) (by rw [← HM.out]; exact hlt)
        obtain ⟨b2, o2, R1, R2, rfl, _, helr, d0⟩ := isM_get (IsM.stb.to HA.out (same_old HW.out)) hrr
        obtain ⟨b1, o1, X1, X2, X3, X4, rfl, _, helb, c0, c1, c2⟩ := isV_get (IsV.stb.to HBv.out (same_old HW.out)) hbr
        have hrl : row.length = n := (HG.out.cols row (List.mem_of_getElem? hr)).trans Hn.out.symm
        have er : (rawV row).length = n := (rawV_len row).trans hrl
        rw [er] at d0 helr
        obtain ⟨bb0, hbb0⟩ : ∃ s, s = (raw b).neg := ⟨_, rfl⟩
        obtain ⟨bb1, hbb1⟩ : ∃ s, s = (raw b).num.length := ⟨_, rfl⟩
        obtain ⟨bb2, hbb2⟩ : ∃ s, s = (raw b).den.length := ⟨_, rfl⟩
        rw [← hbb0] at c0
        rw [← hbb1] at c1
        rw [← hbb2] at c2
        rw [← hbb0, ← hbb1, ← hbb2] at helb
        clear hbb0 hbb1 hbb2
        have QR := Lib.hid helr
        have QB := Lib.hid (isR_isQ helb)
        have QX := Lib.hid (IsV.stb.to HX.out (same_old HW.out))
        have BW := Lib.hid (Bru.next HB.out HW.out)
        obtain ⟨dd, hd⟩ : ∃ d, d = dotQ row x := ⟨_, rfl⟩
        obtain ⟨oo, ho⟩ : ∃ o, o = cmpQ dd b := ⟨_, rfl⟩
        have Hok : Hid (isTight q.A q.B x j = decide (dd = b)) := by rw [Hid, isTight, getD_some hb, getD_row hr, hd]
        have Hrl := Lib.hid hrl
        have Hsr : Hid (∀ e ∈ row, Sz e 1024) := HG.out.szA row (List.mem_of_getElem? hr)
        have Hsd : Hid (Sz dd 100000) := by rw [Hid, hd]; exact dotQ_sz2 Hsr.out Hsx.out (by rw [hrl]; exact hn40)
        have Hsb : Hid (Sz b 100000) := (HG.out.szB b (List.mem_of_getElem? hb)).le (by omega)
        obtain ⟨v2, hv2⟩ : ∃ v, v = decide (dd = b) := ⟨_, rfl⟩
        have p2 : (oo == 0) = v2 := by rw [ho, hv2]; exact cmp_eq
        rw [← hv2] at Hok
        have Hd := Lib.hid hd
        have Ho := Lib.hid ho
        have cr := ratCells
        have hk0 : (0 : Int) ≤ (j : Int) := by omega
        have hk1 : (j : Int) < (M : Int) := by omega
        have CC := Lib.hid (And.intro cP1 (And.intro c0 (And.intro c1 c2)))
        have Hlt := Lib.hid hlt
        clear hr hb hrr hbr helr helb hrl er hd ho hv2 hbw hlt
        go_wp2_with fail
        have HS : Hid (∀ W : World, Below wr.heap.size wr W → W.cell? ⟨w.heap.size, 1, none⟩ = some (.slice (some ⟨b1, o1, none⟩) M cB) ∧ W.cell? ⟨b1, o1 + j * 3, none⟩ = some (.bool bb0) ∧ W.cell? ⟨b1, o1 + j * 3 + 1, none⟩ = some (.slice X1 bb1 X2) ∧ W.cell? ⟨b1, o1 + j * 3 + 2, none⟩ = some (.slice X3 bb2 X4)) := fun W hW => ⟨keep_cell hW CC.out.1, keep_cell hW CC.out.2.1, keep_cell hW CC.out.2.2.1, keep_cell hW CC.out.2.2.2⟩
        have D4 : Hid (∀ W : World, Below wr.heap.size wr W → Calls Tryd.prog 57 #[.slice R1 n R2, .slice D n d] W (RetQ W dd)) := fun W hW => by rw [Hd.out]; exact dot_q (M := n) (IsV.stb.next QR.out hW) (IsV.stb.next QX.out hW) (Bru.next BW.out hW) Hrl.out (Hl.out.trans Hn.out.symm) hn40 Hsr.out Hsx.out
        go_region_held3 (fun w' => w'.cell? ⟨w.heap.size, 1, none⟩ = some (.slice (some ⟨b1, o1, none⟩) M cB) ∧ w'.cell? ⟨b1, o1 + j * 3, none⟩ = some (.bool bb0) ∧ w'.cell? ⟨b1, o1 + j * 3 + 1, none⟩ = some (.slice X1 bb1 X2) ∧ w'.cell? ⟨b1, o1 + j * 3 + 2, none⟩ = some (.slice X3 bb2 X4))
          (exact HS.out _ (by (repeat (first | exact Below.refl _ _ | assumption | refine below_allocR ?_ _ | refine below_drewR ?_ | refine below_put3X ?_ ?_ _ _ _ | refine below_setG ?_ (by omega) | refine below_step ?_ (by assumption))); (first | done | fail)))
          (first
            | (go_at_call 57; (with_reducible refine Calls.mono (D4.out _ (by (repeat (first | exact Below.refl _ _ | assumption | refine below_allocR ?_ _ | refine below_drewR ?_ | refine below_put3X ?_ ?_ _ _ _ | refine below_setG ?_ (by omega) | refine below_step ?_ (by assumption))); (first | done | fail))) ?_); rintro e w4 ⟨⟨v4, rfl, hv4⟩, hb4⟩; have V4 := Lib.hid (IsQ.stb.old hv4); obtain ⟨s4, P4, k4, O4, l4, rfl, _, _, _⟩ := isQ_open hv4; have D5 : Hid (∀ W : World, Below w4.heap.size w4 W → Calls Tryd.prog 56 #[.agg #[.bool s4, .slice P4 (lim dd.num.natAbs).length k4, .slice O4 (lim dd.den).length l4], .agg #[.bool bb0, .slice X1 bb1 X2, .slice X3 bb2 X4]] W (fun e w' => e = .returned (.int .i64 oo) ∧ Below W.heap.size W w')) := fun W hW => by rw [Ho.out]; exact order_q (IsQ.stb.next V4.out hW) (IsQ.stb.next QB.out (by (repeat (first | exact Below.refl _ _ | assumption | refine below_allocR ?_ _ | refine below_drewR ?_ | refine below_put3X ?_ ?_ _ _ _ | refine below_setG ?_ (by omega) | refine below_step ?_ (by assumption))); (first | done | fail))) Hsd.out Hsb.out)
            | (go_at_call 56; (with_reducible refine Calls.mono (D5.out _ (by (repeat (first | exact Below.refl _ _ | assumption | refine below_allocR ?_ _ | refine below_drewR ?_ | refine below_put3X ?_ ?_ _ _ _ | refine below_setG ?_ (by omega) | refine below_step ?_ (by assumption))); (first | done | fail))) ?_); rintro e w5 ⟨rfl, hb5⟩))
        have hB5 : Below wr.heap.size wr w5 := (by (repeat (first | exact Below.refl _ _ | assumption | refine below_allocR ?_ _ | refine below_drewR ?_ | refine below_put3X ?_ ?_ _ _ _ | refine below_setG ?_ (by omega) | refine below_step ?_ (by assumption))); (first | done | fail))
        have Hbw5 := Lib.hid (Below.trans Hbw.out (Below.mono hB5 (Below.size Hbw.out)))
        have Own5 := Lib.hid (OwnS.step (T := fun _ => False) IsI.stb Own.out hB5 (fun _ h => h) (fun _ h => h.elim))
        have hbase : w3.heap.size ≤ w5.heap.size := Hbw5.out.size
        clear HS D4 D5 CC hB5 hv4 V4 hb4 hb5 QR QB QX BW Hd Ho Hrl Hsr Hsd Hsb
        cases v2 with
        | false =>
          go_wp2_with fail
          go_roundw
          case rel => exact ⟨j + 1, by have := Hlt.out; omega, by go_num, Hbw5.out, by rw [Hid, tightTo_out Hok.out]; exact Own5.out⟩
          case measure => have := Hlt.out; simp [intOf]; omega
        | true =>
          go_wp2_with (at_builtin; refine wp_appS elI rfl _ _ rfl IsI.stb rfl rfl rfl Own5.out (show IsI w5 (fun _ => False) (.int .i64 (j : Int)) j from rfl) rfl (by intro u hu; simp [Value.cells] at hu; subst hu; rfl) (by have h1 := tightTo_len q.A q.B x j; have := Hlt.out; omega) hbase ?_; intro v6 w6 hown6 hb6 hz6)
          go_roundw
          case rel => exact ⟨j + 1, by have := Hlt.out; omega, by go_num, Hbw5.out.trans hb6, by rw [Hid, tightTo_in Hok.out]; exact hown6⟩
          case measure => have := Hlt.out; simp [intOf]; omega
      · obtain rfl : j = M := by omega
        clear hbw
        go_wp2_with fail
        go_ret2
        exact ⟨⟨_, rfl, OwnS.isS IsI.stb (T := Old wr) Own.out (fun b hb => hb.elim) (fun b h1 h2 => h2)⟩, HW.out⟩
end Go.Proofs.YtblpaocignlpkaaDoor
/-
  The contract of parlourkit's Alike at lists of ints.
-/
namespace Go.Proofs.YtblpaocignlpkaaDoor
open Go.RowKit
set_option linter.unusedVariables false

set_option maxHeartbeats 2000000 in
theorem alike_i {w : World} {va vb : Value} {a b : List Nat} (ha : IsIs w (Old w) va a) (hb : IsIs w (Old w) vb b) :
    Calls Tryd.prog 48 #[va, vb] w fun e w' => e = .returned (.bool (decide (a = b))) ∧ Below w.heap.size w w' := by
  have HA := Lib.hid ha
  have HB := Lib.hid hb
  obtain ⟨A, cA, _, rfl, lA, mA, _⟩ := ha
  obtain ⟨B, cB, _, rfl, lB, mB, _⟩ := hb
  unfold maxLen at mA mB
  obtain ⟨la, hla⟩ : ∃ n, n = a.length := ⟨_, rfl⟩
  obtain ⟨lb, hlb⟩ : ∃ n, n = b.length := ⟨_, rfl⟩
  rw [← hla] at HA lA ⊢
  rw [← hlb] at HB lB ⊢
  have Hla := Lib.hid hla
  have Hlb := Lib.hid hlb
  clear hla hlb
  have hA1 : la ≤ 9223372036854775807 := by omega
  have hB1 : lb ≤ 9223372036854775807 := by omega
  clear lA mA lB mB
  by_cases hl : la = lb
  case neg =>
    have b1 : ((la : Int) != (lb : Int)) = true := bne_iff_ne.2 (by omega)
    have Hr : Hid (decide (a = b) = false) := decide_eq_false (fun e => hl (by rw [Hla.out, Hlb.out, e]))
    clear hl
    go_enter Tryd.func48, Tryd.ntmps48
    go_wp2_with fail
    go_ret
    exact ⟨by show Ending.returned (.bool _) = _; rw [Hr.out], Below.refl _ _⟩
  subst hl
  have b1 : ((la : Int) != (la : Int)) = false := by simp
  go_enter Tryd.func48, Tryd.ntmps48
  go_wp2_with fail
  go_loopw [5] (fun i wr => ∃ k : Nat, k ≤ la ∧ i = .int .i64 (k : Int) ∧ Below w.heap.size w wr ∧ Hid (∀ j, j < k → a[j]? = b[j]?)) (fun i _ => la - (intOf i).toNat)
  case atStart => exact ⟨0, Nat.zero_le _, rfl, Below.refl _ _, fun j hj => by omega⟩
  case round =>
    obtain ⟨k, hk, rfl, hbw, hrel⟩ := hrel
    have Hbw := Lib.hid hbw
    have Hrel := Lib.hid hrel.out
    clear hrel
    rcases Nat.lt_or_ge k la with hlt | hge
    · obtain ⟨x, hx⟩ := some_at (l := a) (j := k) (by rw [← Hla.out]; exact hlt)
      obtain ⟨y, hy⟩ := some_at (l := b) (j := k) (by rw [← Hlb.out]; exact hlt)
      obtain ⟨ba, oa, ea, rfl, _, he1, _, c0⟩ := IsS.get (IsIs.stb.to HA.out (same_old hbw)) (by omega) hx
      obtain ⟨bb, ob, eb, rfl, _, he2, _, d0⟩ := IsS.get (IsIs.stb.to HB.out (same_old hbw)) (by omega) hy
      have he1' : ea = .int .i64 (x : Int) := he1
      have he2' : eb = .int .i64 (y : Int) := he2
      subst he1' he2'
      have c1 : wr.cell? ⟨ba, oa + k, none⟩ = some (.int .i64 (x : Int)) := by simpa using c0 0 (.int .i64 (x : Int)) rfl
      have d1 : wr.cell? ⟨bb, ob + k, none⟩ = some (.int .i64 (y : Int)) := by simpa using d0 0 (.int .i64 (y : Int)) rfl
      have Hx := Lib.hid hx
      have Hy := Lib.hid hy
      clear hx hy he1 he2 c0 d0 hbw
      by_cases hxy : x = y
      · have hb1 : (((x : Int)) != (y : Int)) = false := by simp [hxy]
        have Hxy := Lib.hid hxy
        clear hxy
        go_wp2_with fail
        go_quiet (fail)
        go_wp2_with fail
        go_roundw
        case rel =>
          refine ⟨k + 1, by omega, by go_num, ?_, fun j hj => ?_⟩
          · exact below_step Hbw.out (Dr.below ⟨_, rfl⟩ _)
          · rcases Nat.lt_or_ge j k with h | h
            · exact Hrel.out j h
            · obtain rfl : j = k := by omega
              rw [Hx.out, Hy.out, Hxy.out]
        case measure => simp [intOf]; omega
      · have hb1 : (((x : Int)) != (y : Int)) = true := bne_iff_ne.2 (by omega)
        have Hr : Hid (decide (a = b) = false) := decide_eq_false (fun e => hxy (by have h1 := Hx.out; rw [e, Hy.out] at h1; exact (Option.some.inj h1).symm))
        clear hxy
        go_wp2_with fail
        go_quiet (fail)
        go_wp2_with fail
        go_ret
        exact ⟨by show Ending.returned (.bool _) = _; rw [Hr.out], below_step Hbw.out (Dr.below ⟨_, rfl⟩ _)⟩
    · obtain rfl : k = la := by omega
      have Hr : Hid (decide (a = b) = true) := decide_eq_true (list_eq (by rw [← Hla.out, ← Hlb.out]) (fun j hj => Hrel.out j (by rw [Hla.out]; exact hj)))
      clear hbw
      go_wp2_with fail
      go_ret
      exact ⟨by show Ending.returned (.bool _) = _; rw [Hr.out], Hbw.out⟩
end Go.Proofs.YtblpaocignlpkaaDoor
/-
  The contract of package dual's Accepts at a status that is none of the three.
-/
namespace Go.Proofs.YtblpaocignlpkaaDoor
open Go.RowKit Go.Maps
set_option linter.unusedVariables false

theorem int_ne {a b : Int} (h : a ≠ b) : Lit.int .i64 a ≠ Lit.int .i64 b := fun e => h (by cases e; rfl)
theorem none_at' {x : Int} {a b c z : DataW Value} (h : x ≠ 1 ∧ x ≠ 2 ∧ x ≠ 3) : ((((DataW.map []).put (.int .i64 1) a).put (.int .i64 2) b).put (.int .i64 3) c).atKey (.int .i64 x) z = z := by
  rw [atKey_put_other (int_ne h.2.2), atKey_put_other (int_ne h.2.1), atKey_put_other (int_ne h.1)]
  rfl
theorem none_at {x : Int} {a b c : DataW Value} (h : x ≠ 1 ∧ x ≠ 2 ∧ x ≠ 3) : ((((DataW.map []).put (.int .i64 1) a).put (.int .i64 2) b).put (.int .i64 3) c).atKey (.int .i64 x) (.held .nilIface) = .held .nilIface := none_at' h
theorem none_has {x : Int} {a b c : DataW Value} (h : x ≠ 1 ∧ x ≠ 2 ∧ x ≠ 3) : Maps.has ((((DataW.map []).put (.int .i64 1) a).put (.int .i64 2) b).put (.int .i64 3) c) (.int .i64 x) = false := has_false_of_atKey fun _ => none_at' h

set_option maxRecDepth 100000 in
set_option maxHeartbeats 4000000 in
theorem accepts_none {w : World} {vp vs : Value} {p : Prog} {s : Sol} (hp : IsP w (Old w) vp p) (hs : IsSol w (Old w) vs s) (hB : Bru w) (h0 : chkP p = 0) (hst : s.st ≠ 1 ∧ s.st ≠ 2 ∧ s.st ≠ 3) (hwf : (Lit.int .i64 s.st).wf = true) :
    Calls Tryd.prog 23 #[vp, vs] w fun e w' => e = .returned (.tuple #[.bool false, .int .i64 0]) ∧ Below w.heap.size w w' := by
  have hps : ∃ A cA B cB C cC P cP Q cQ X cX D cD R cR, vp = .agg #[.slice A p.A.length cA, .slice B p.B.length cB, .slice C p.C.length cC] ∧ vs = .agg #[.int .i64 s.st, .bool s.val.neg, .slice P s.val.num.length cP, .slice Q s.val.den.length cQ, .slice X s.X.length cX, .slice D s.D.length cD, .slice R s.R.length cR] ∧ IsPS w (Old w) (.agg #[.slice A p.A.length cA, .slice B p.B.length cB, .slice C p.C.length cC, .int .i64 s.st, .bool s.val.neg, .slice P s.val.num.length cP, .slice Q s.val.den.length cQ, .slice X s.X.length cX, .slice D s.D.length cD, .slice R s.R.length cR]) p s := by
    obtain ⟨A, cA, B, cB, C, cC, rfl, h1, h2, h3⟩ := hp
    obtain ⟨P, cP, Q, cQ, X, cX, D, cD, R, cR, rfl, h4, h5, h6, h7⟩ := hs
    exact ⟨A, cA, B, cB, C, cC, P, cP, Q, cQ, X, cX, D, cD, R, cR, rfl, rfl, A, cA, B, cB, C, cC, P, cP, Q, cQ, X, cX, D, cD, R, cR, rfl, h1, h2, h3, h4, h5, h6, h7⟩
  have HP := Lib.hid hp
  have HB := Lib.hid hB
  clear hp hs hB
  obtain ⟨A, cA, B, cB, C, cC, P, cP, Q, cQ, X, cX, D, cD, R, cR, rfl, rfl, hv⟩ := hps
  have He0 := Lib.hid h0
  have Hst := Lib.hid hst
  have Hwf := Lib.hid hwf
  clear hv h0 hst hwf
  obtain ⟨w0, hw0, hb0, rP, rS, Hz⟩ := boxes2 w #[.slice A p.A.length cA, .slice B p.B.length cB, .slice C p.C.length cC] #[.int .i64 s.st, .bool s.val.neg, .slice P s.val.num.length cP, .slice Q s.val.den.length cQ, .slice X s.X.length cX, .slice D s.D.length cD, .slice R s.R.length cR] 31 57
  have HB0 := Lib.hid hb0
  have RP := Lib.hid rP
  have RS := Lib.hid rS
  obtain ⟨p0, p1, p2⟩ := cells3 rP
  obtain ⟨s0, s1, s2, s3, s4, s5, s6⟩ := cells7 rS
  clear hb0 rP rS
  have hmm := @run_makeMap Tryd.prog
  go_enter Tryd.func23, Tryd.ntmps23
  go_wp2_with fail
  clear hw0
  refine (pcheck_at HP.out HB.out HB0.out).mono ?_
  rw [He0.out]
  rintro e w1 ⟨rfl, hb⟩
  have hb1 := below_step HB0.out hb
  have HB1 := Lib.hid hb1
  have rP1 := RP.out.next hb
  have rS1 := RS.out.next hb
  have hzs := Hz.out
  have hs1 := hb.size
  have n1 : w.heap.size ≠ w1.heap.size := by omega
  have n2 : w.heap.size + 1 ≠ w1.heap.size := by omega
  have hown0 := World.ownsMap_made w1 Tryd.prog 3 anyElem
  have hbA : Below w.heap.size w (w1.alloc (.map #[] 0)) := below_allocR hb1 _
  have hsA : (w1.alloc (.map #[] 0)).heap.size = w1.heap.size + 1 := World.size_alloc _ _
  have rPA := rP1.alloc (.map #[] 0)
  have rSA := rS1.alloc (.map #[] 0)
  obtain ⟨p0, p1, p2⟩ := cells3 rPA
  obtain ⟨s0, s1, s2, s3, s4, s5, s6⟩ := cells7 rSA
  clear hb hzs

  go_wp2_with (first
    | (at_lookup; refine wpList_lookup_any _ rfl _ _ 100 rfl 3 102 keyLaw Tryd.underlying100 (zeroCert _) w1.heap.size 3 _ rfl hown3 _ _ rfl (keyAt (x := s.st) Hwf.out) .nilIface false (none_at Hst.out) (none_has Hst.out) ?_)
    | (refine wpList_insert_own _ rfl _ _ _ 100 rfl 3 102 keyLaw Tryd.underlying100 anyElem w1.heap.size 2 _ rfl hown2 (by unfold maxLen; omega) (.int .i64 3) (.iface 99 (.agg #[.slice A p.A.length cA, .slice B p.B.length cB, .slice C p.C.length cC, .int .i64 s.st, .bool s.val.neg, .slice P s.val.num.length cP, .slice Q s.val.den.length cQ, .slice X s.X.length cX, .slice D s.D.length cD, .slice R s.R.length cR])) _ rfl rfl (keyAt (x := 3) (by decide)) _ [] rfl ?_; intro x3 hown3 hg3; have rP_3 := Row.grownB rP_2 hg3 n1; have rS_3 := Row.grownB rS_2 hg3 n2; have hb_3 := Below.grown hb_2 hg3 hb_2.size (fun k hk => by cases hk; exact hb1.size); obtain ⟨p0, p1, p2⟩ := cells3 rP_3; obtain ⟨s0, s1, s2, s3, s4, s5, s6⟩ := cells7 rS_3)
    | (refine wpList_insert_own _ rfl _ _ _ 100 rfl 3 102 keyLaw Tryd.underlying100 anyElem w1.heap.size 1 _ rfl hown1 (by unfold maxLen; omega) (.int .i64 2) (.iface 98 (.agg #[.slice A p.A.length cA, .slice B p.B.length cB, .slice C p.C.length cC, .int .i64 s.st, .bool s.val.neg, .slice P s.val.num.length cP, .slice Q s.val.den.length cQ, .slice X s.X.length cX, .slice D s.D.length cD, .slice R s.R.length cR])) _ rfl rfl (keyAt (x := 2) (by decide)) _ [] rfl ?_; intro x2 hown2 hg2; have rP_2 := Row.grownB rP_1 hg2 n1; have rS_2 := Row.grownB rS_1 hg2 n2; have hb_2 := Below.grown hb_1 hg2 hb_1.size (fun k hk => by cases hk; exact hb1.size); obtain ⟨p0, p1, p2⟩ := cells3 rP_2; obtain ⟨s0, s1, s2, s3, s4, s5, s6⟩ := cells7 rS_2)
    | (refine wpList_insert_own _ rfl _ _ _ 100 rfl 3 102 keyLaw Tryd.underlying100 anyElem w1.heap.size 0 _ rfl hown0 (by unfold maxLen; omega) (.int .i64 1) (.iface 97 (.agg #[.slice A p.A.length cA, .slice B p.B.length cB, .slice C p.C.length cC, .int .i64 s.st, .bool s.val.neg, .slice P s.val.num.length cP, .slice Q s.val.den.length cQ, .slice X s.X.length cX, .slice D s.D.length cD, .slice R s.R.length cR])) _ rfl rfl (keyAt (x := 1) (by decide)) _ [] rfl ?_; intro x1 hown1 hg1; have rP_1 := Row.grownB rPA hg1 n1; have rS_1 := Row.grownB rSA hg1 n2; have hb_1 := Below.grown hbA hg1 hbA.size (fun k hk => by cases hk; exact hb1.size); obtain ⟨p0, p1, p2⟩ := cells3 rP_1; obtain ⟨s0, s1, s2, s3, s4, s5, s6⟩ := cells7 rS_1))
  go_ret2
  exact ⟨rfl, hb_3⟩
end Go.Proofs.YtblpaocignlpkaaDoor
/-
  A region that draws its order, whose operations but the last make memory and write none that was there, and whose last one waits for all others: whatever the order, the last one comes where each slot holds what its operation says of it.
-/
namespace Go.Proofs.YtblpaocignlpkaaDoor
open Go.RowKit
set_option linter.unusedVariables false

/-- Each operation but the last (number n) writes a slot of its own (below m), waits for elder ones alone, and a later one waits for it. -/
def growsS (ops : Array Oper) (n m : Nat) : Bool :=
  decide (ops.size = n + 1) && (ops[n]?).any (fun o => o.guard.isNone && (needsOf o).all fun j => decide (j < n)) && (List.range n).all fun i => (ops[i]?).any fun o =>
    (o.dst.any fun d => decide (d < m) && (List.range n).all fun j => decide (j = i) || !((ops[j]?).any fun oj => oj.dst == some d)) && ((needsOf o).all fun j => decide (j < i)) &&
      (List.range (n + 1)).any fun k => decide (i < k) && (ops[k]?).any fun ok => (needsOf ok).contains i
/-- Is t the slot of one of the first n operations? -/
def slotN (ops : Array Oper) (n : Nat) (t : Nat) : Bool := (List.range n).any fun i => (ops[i]?).any fun o => o.dst == some t

section
variable {P : Program} {ops : Array Oper} {Q : Exit → Act → World → Prop} {Φ : Nat → Value → World → Prop} {a0 : Act} {w0 : World} {n : Nat}

theorem growsS_at {m i : Nat} {o : Oper} (h : growsS ops n m = true) (hin : i < n) (hi : ops[i]? = some o) :
    ∃ d, o.dst = some d ∧ d < m ∧ (∀ j oj, j < n → ops[j]? = some oj → oj.dst = some d → j = i) ∧ (∀ j ∈ needsOf o, j < i) ∧ ∃ k ok, i < k ∧ k ≤ n ∧ ops[k]? = some ok ∧ i ∈ needsOf ok := by
  unfold growsS at h
  rw [Bool.and_eq_true, Bool.and_eq_true] at h
  have h1 := List.all_eq_true.1 h.2 i (List.mem_range.2 hin)
  rw [hi] at h1
  simp only [Option.any_some, Bool.and_eq_true] at h1
  obtain ⟨⟨h2, h3⟩, h4⟩ := h1
  cases hd : o.dst with
  | none => rw [hd] at h2; simp at h2
  | some d =>
    rw [hd] at h2
    simp only [Option.any_some, Bool.and_eq_true, decide_eq_true_eq] at h2
    refine ⟨d, rfl, h2.1, fun j oj hjn hj hoj => ?_, fun j hj => by simpa using List.all_eq_true.1 h3 j hj, ?_⟩
    · have h4 := List.all_eq_true.1 h2.2 j (List.mem_range.2 hjn)
      rw [hj] at h4
      simp only [Option.any_some, hoj, beq_self_eq_true, Bool.not_true, Bool.or_false, decide_eq_true_eq] at h4
      exact h4
    · obtain ⟨k, hk, h5⟩ := List.any_eq_true.1 h4
      rw [Bool.and_eq_true, decide_eq_true_eq] at h5
      cases hok : ops[k]? with
      | none => rw [hok] at h5; simp at h5
      | some ok =>
        rw [hok] at h5
        exact ⟨k, ok, h5.1, Nat.lt_succ_iff.1 (List.mem_range.1 hk), hok, by simpa using h5.2⟩
theorem growsS_last {m : Nat} (h : growsS ops n m = true) : ops.size = n + 1 ∧ ∃ o, ops[n]? = some o ∧ o.guard = none ∧ ∀ j ∈ needsOf o, j < n := by
  unfold growsS at h
  rw [Bool.and_eq_true, Bool.and_eq_true, decide_eq_true_eq] at h
  refine ⟨h.1.1, ?_⟩
  cases ho : ops[n]? with
  | none => have := h.1.2; rw [ho] at this; simp at this
  | some o =>
    have := h.1.2
    rw [ho] at this
    simp only [Option.any_some, Bool.and_eq_true, Option.isNone_iff_eq_none] at this
    exact ⟨o, rfl, this.1, fun j hj => by simpa using List.all_eq_true.1 this.2 j hj⟩

/-- What holds between the operations. -/
structure GrowInvS (ops : Array Oper) (n : Nat) (Φ : Nat → Value → World → Prop) (a0 : Act) (w0 : World) (listed : Array Bool) (a : Act) (w : World) : Prop where
  size : a.tmps.size = a0.tmps.size
  defers : a.defers = a0.defers
  below : Below w0.heap.size w0 w
  free : ∀ t, slotN ops n t = false → a.tmps[t]? = a0.tmps[t]?
  holds : ∀ j oj d, j < n → ops[j]? = some oj → listed[j]? = some true → oj.dst = some d → Φ j (a.tmps.getD d undef) w
  down : ∀ (i : Nat) (o : Oper), ops[i]? = some o → listed[i]? = some true → ∀ j ∈ needsOf o, listed[j]? = some true
  last : listed[n]? = some false

theorem all_listed {m : Nat} {listed : Array Bool} (hg : growsS ops n m = true) (hlast : ∀ o, ops[n]? = some o → ∀ j ∈ needsOf o, listed[j]? = some true) (hdown : ∀ (i : Nat) (o : Oper), ops[i]? = some o → listed[i]? = some true → ∀ j ∈ needsOf o, listed[j]? = some true) :
    ∀ j, j < n → listed[j]? = some true := by
  have key : ∀ k j, n - k ≤ j → j < n → listed[j]? = some true := by
    intro k
    induction k with
    | zero => intro j h1 h2; omega
    | succ k ih =>
      intro j h1 h2
      rcases Nat.lt_or_ge j (n - k) with h | h
      · obtain ⟨hs, _⟩ := growsS_last hg
        have hlt : j < ops.size := by omega
        obtain ⟨d, _, _, _, _, i, oi, hji, hin, hoi, hmem⟩ := growsS_at hg h2 (Array.getElem?_eq_getElem hlt)
        rcases Nat.lt_or_ge i n with h3 | h3
        · exact hdown i oi hoi (ih i (by omega) h3) j hmem
        · obtain rfl : i = n := by omega
          exact hlast oi hoi j hmem
      · exact ih j h h2
  exact fun j hj => key n j (by omega) hj

theorem wpAny_growS (hst : ∀ i v w w', Φ i v w → Below w.heap.size w w' → Φ i v w') (hg : growsS ops n a0.tmps.size = true)
    (hstep : ∀ i o, i < n → ops[i]? = some o → ∀ (a : Act) (w : World), a.tmps.size = a0.tmps.size → a.defers = a0.defers → Below w0.heap.size w0 w → (∀ t, slotN ops n t = false → a.tmps[t]? = a0.tmps[t]?) →
      (∀ j oj d, j ∈ needsOf o → ops[j]? = some oj → oj.dst = some d → Φ j (a.tmps.getD d undef) w) →
      if Region.wanted o (yielded ops a.tmps) = true then o.wp P a w (fun a' w' => ∃ v, a' = a.put o.dst v ∧ Below w.heap.size w w' ∧ Φ i v w') Q else Φ i undef w)
    (hend : ∀ o, ops[n]? = some o → ∀ (a : Act) (w : World), a.tmps.size = a0.tmps.size → a.defers = a0.defers → Below w0.heap.size w0 w → (∀ t, slotN ops n t = false → a.tmps[t]? = a0.tmps[t]?) →
      (∀ j oj d, j < n → ops[j]? = some oj → oj.dst = some d → Φ j (a.tmps.getD d undef) w) → o.wp P a w (fun a' w' => Q .normal a' w') Q) :
    ∀ (fuel : Nat) (listed : Array Bool) (a : Act) (w : World), listed.size = ops.size → cntU listed.toList ≤ fuel → GrowInvS ops n Φ a0 w0 listed a w → wpAny P .any ops Q fuel listed a w := by
  obtain ⟨hsize, oL, hoL, hgL, hnL⟩ := growsS_last hg
  -- where nothing is ready, all are listed: the last one is not
  have stuck : ∀ (listed : Array Bool) (a : Act) (w : World), listed.size = ops.size → Region.ready .any ops listed = [] → GrowInvS ops n Φ a0 w0 listed a w → False := by
    intro listed a w hsz hr inv
    have all : ∀ k i, i < k → i < n → listed[i]? = some true := by
      intro k
      induction k with
      | zero => intro i hi; omega
      | succ k ih =>
        intro i hi hlt
        rcases Nat.lt_or_ge i k with h | h
        · exact ih i h hlt
        · obtain rfl : i = k := by omega
          have hlo : i < ops.size := by omega
          have hl : i < listed.size := by omega
          cases hb : listed[i] with
          | true => rw [Array.getElem?_eq_getElem hl, hb]
          | false =>
            exfalso
            have hm : i ∈ Region.ready .any ops listed := by
              unfold Region.ready
              refine List.mem_filter.2 ⟨List.mem_range.2 hlo, ?_⟩
              have hi : ops[i]? = some ops[i] := Array.getElem?_eq_getElem hlo
              obtain ⟨d, hd, _, _, hn, _⟩ := growsS_at hg hlt hi
              rw [hi]
              simp only [Option.map_some, Option.getD_some, Bool.and_eq_true, Bool.not_eq_true']
              refine ⟨by simp [Array.getD_eq_getD_getElem?, Array.getElem?_eq_getElem hl, hb], Array.all_eq_true'.2 fun e he => ?_⟩
              cases hbd : Region.binds .any e with
              | false => rfl
              | true =>
                have hj := hn e.on (List.mem_map.2 ⟨e, List.mem_filter.2 ⟨by simpa using he, hbd⟩, rfl⟩)
                have := ih e.on hj (by omega)
                simp [Array.getD_eq_getD_getElem?, this]
            rw [hr] at hm
            cases hm
    have hm : n ∈ Region.ready .any ops listed := by
      unfold Region.ready
      refine List.mem_filter.2 ⟨List.mem_range.2 (by omega), ?_⟩
      rw [hoL]
      simp only [Option.map_some, Option.getD_some, Bool.and_eq_true, Bool.not_eq_true']
      refine ⟨by rw [Array.getD_eq_getD_getElem?, inv.last]; rfl, Array.all_eq_true'.2 fun e he => ?_⟩
      cases hbd : Region.binds .any e with
      | false => rfl
      | true =>
        have hj := hnL e.on (List.mem_map.2 ⟨e, List.mem_filter.2 ⟨by simpa using he, hbd⟩, rfl⟩)
        have := all (e.on + 1) e.on (by omega) hj
        simp [Array.getD_eq_getD_getElem?, this]
    rw [hr] at hm
    cases hm
  have ended : ∀ (fuel : Nat) (listed : Array Bool) (a : Act) (w : World), listed.size = ops.size → (∀ j, j < ops.size → listed[j]? = some true) → Q .normal a w → wpAny P .any ops Q fuel listed a w := by
    intro fuel listed a w hsz hall hQ
    have hr : Region.ready .any ops listed = [] := by
      cases hr : Region.ready .any ops listed with
      | nil => rfl
      | cons i l =>
        exfalso
        have hm : i ∈ Region.ready .any ops listed := by rw [hr]; simp
        have hlt : i < ops.size := by
          unfold Region.ready at hm
          exact List.mem_range.1 (List.mem_filter.1 hm).1
        have h1 := (ready_needs (Array.getElem?_eq_getElem hlt) hm).1
        simp [Array.getD_eq_getD_getElem?, hall i hlt] at h1
    cases fuel with
    | zero => exact ⟨hr, hQ⟩
    | succ fuel => exact ⟨fun _ => hQ, fun i hm => by rw [hr] at hm; cases hm⟩
  intro fuel
  induction fuel with
  | zero =>
    intro listed a w hsz hc inv
    have hr : Region.ready .any ops listed = [] := by
      cases hr : Region.ready .any ops listed with
      | nil => rfl
      | cons i l =>
        exfalso
        have hm : i ∈ Region.ready .any ops listed := by rw [hr]; simp
        have hlt : i < ops.size := by
          unfold Region.ready at hm
          exact List.mem_range.1 (List.mem_filter.1 hm).1
        have h1 := (ready_needs (Array.getElem?_eq_getElem hlt) hm).1
        have hl : i < listed.size := by omega
        have h2 := cntU_zero (l := listed.toList) (i := i) (b := listed[i]) (by omega) (by simp [hl])
        simp [Array.getD_eq_getD_getElem?, Array.getElem?_eq_getElem hl, h2] at h1
    exact (stuck listed a w hsz hr inv).elim
  | succ fuel ih =>
    intro listed a w hsz hc inv
    refine ⟨fun hr => (stuck listed a w hsz hr inv).elim, fun i hm => ?_⟩
    have hlt : i < ops.size := by
      unfold Region.ready at hm
      exact List.mem_range.1 (List.mem_filter.1 hm).1
    have hi : ops[i]? = some ops[i] := Array.getElem?_eq_getElem hlt
    obtain ⟨h1, h2⟩ := ready_needs hi hm
    have hl : i < listed.size := by omega
    have hb : listed[i] = false := by simpa [Array.getD_eq_getD_getElem?, Array.getElem?_eq_getElem hl] using h1
    have need : ∀ j ∈ needsOf ops[i], listed[j]? = some true := by
      intro j hj
      have h3 := h2 j hj
      rcases Nat.lt_or_ge j listed.size with hjl | hjl
      · rw [Array.getElem?_eq_getElem hjl]
        simp only [Array.getD_eq_getD_getElem?, Array.getElem?_eq_getElem hjl, Option.getD_some] at h3
        rw [h3]
      · simp [Array.getD_eq_getD_getElem?, Array.getElem?_eq_none hjl] at h3
    rcases Nat.lt_or_ge i n with hin | hin
    · obtain ⟨d, hd, hdn, hdu, _, _⟩ := growsS_at hg hin hi
      have hs := hstep i ops[i] hin hi a w inv.size inv.defers inv.below inv.free fun j oj dj hj hoj hdj => inv.holds j oj dj (by
        have := growsS_at hg hin hi
        obtain ⟨_, _, _, _, h5, _⟩ := this
        have := h5 j hj
        omega) hoj (need j hj) hdj
      have next : ∀ (v : Value) (w' : World), Below w.heap.size w w' → Φ i v w' → wpAny P .any ops Q fuel (listed.setIfInBounds i true) (a.put ops[i].dst v) w' := by
        intro v w' hbw hv
        rw [hd]
        refine ih _ _ _ (by simp [hsz]) ?_ ⟨by rw [put_size]; exact inv.size, inv.defers, inv.below.trans (hbw.mono inv.below.size), fun t ht => ?_, fun j oj dj hjn hj hlj hdj => ?_, fun k o hk hlk j hj => ?_, ?_⟩
        · have := cntU_set (l := listed.toList) (i := i) (by simp [hl, hb])
          simp only [Array.toList_setIfInBounds]
          omega
        · rw [put_other _ _ (by
            rintro rfl
            unfold slotN at ht
            rw [List.any_eq_false] at ht
            have := ht i (List.mem_range.2 hin)
            rw [hi] at this
            simp [hd] at this)]
          exact inv.free t ht
        · by_cases hji : j = i
          · subst hji
            rw [hi] at hj
            cases hj
            rw [hd] at hdj
            cases hdj
            rw [put_same _ _ (by rw [inv.size]; exact hdn)]
            exact hv
          · have hne : dj ≠ d := fun e => hji (hdu j oj hjn hj (by rw [hdj, e]))
            rw [getD_of (put_other a v hne)]
            refine hst _ _ _ _ (inv.holds j oj dj hjn hj ?_ hdj) hbw
            rwa [Array.getElem?_setIfInBounds_ne (Ne.symm hji)] at hlj
        · have hj' : listed[j]? = some true := by
            by_cases hki : k = i
            · subst hki
              rw [hi] at hk
              cases hk
              exact need j hj
            · rw [Array.getElem?_setIfInBounds_ne (Ne.symm hki)] at hlk
              exact inv.down k o hk hlk j hj
          by_cases hji : j = i
          · subst hji
            rw [Array.getElem?_setIfInBounds_self_of_lt hl]
          · rw [Array.getElem?_setIfInBounds_ne (Ne.symm hji)]
            exact hj'
        · rw [Array.getElem?_setIfInBounds_ne (by omega)]
          exact inv.last
      unfold wpOp
      rw [hi]
      simp only
      split
      · rename_i hw
        rw [if_pos hw] at hs
        exact .inl (Oper.wp_mono (fun a' w' ⟨v, ha, hbw, hv⟩ => by rw [ha]; exact next v w' hbw hv) hs)
      · rename_i hw
        rw [if_neg hw] at hs
        exact next undef w (Below.refl _ _) hs
    · obtain rfl : i = n := by omega
      have hoi : ops[i] = oL := by rw [hi] at hoL; exact Option.some.inj hoL
      have hall := all_listed hg (fun o ho j hj => by rw [hi] at ho; cases ho; exact need j hj) inv.down
      have hs := hend ops[i] hi a w inv.size inv.defers inv.below inv.free fun j oj dj hjn hoj hdj => inv.holds j oj dj hjn hoj (hall j hjn) hdj
      unfold wpOp
      rw [hi]
      simp only
      have hw : Region.wanted ops[i] (yielded ops a.tmps) = true := by rw [hoi]; unfold Region.wanted; rw [hgL]
      rw [if_pos hw]
      refine .inl (Oper.wp_mono (fun a' w' hQ => ended _ _ _ _ (by simp [hsz]) (fun j hj => ?_) hQ) hs)
      by_cases hji : j = i
      · subst hji
        rw [Array.getElem?_setIfInBounds_self_of_lt hl]
      · rw [Array.getElem?_setIfInBounds_ne (Ne.symm hji)]
        exact hall j (by omega)

theorem wp_region_growS {id : Nat} (n : Nat) (Φ : Nat → Value → World → Prop) (hm : P.follows .mixedOrders = true) (hst : ∀ i v w w', Φ i v w → Below w.heap.size w w' → Φ i v w') (hg : growsS ops n a0.tmps.size = true)
    (hstep : ∀ i o, i < n → ops[i]? = some o → ∀ (a : Act) (w : World), a.tmps.size = a0.tmps.size → a.defers = a0.defers → Below w0.heap.size w0 w → (∀ t, slotN ops n t = false → a.tmps[t]? = a0.tmps[t]?) →
      (∀ j oj d, j ∈ needsOf o → ops[j]? = some oj → oj.dst = some d → Φ j (a.tmps.getD d undef) w) →
      if Region.wanted o (yielded ops a.tmps) = true then o.wp P a w (fun a' w' => ∃ v, a' = a.put o.dst v ∧ Below w.heap.size w w' ∧ Φ i v w') Q else Φ i undef w)
    (hend : ∀ o, ops[n]? = some o → ∀ (a : Act) (w : World), a.tmps.size = a0.tmps.size → a.defers = a0.defers → Below w0.heap.size w0 w → (∀ t, slotN ops n t = false → a.tmps[t]? = a0.tmps[t]?) →
      (∀ j oj d, j < n → ops[j]? = some oj → oj.dst = some d → Φ j (a.tmps.getD d undef) w) → o.wp P a w (fun a' w' => Q .normal a' w') Q) :
    (Code.region id ops true).wp P Q a0 w0 := by
  have hs := (growsS_last hg).1
  refine wp_region_any hm (wpAny_growS hst hg hstep hend _ _ _ _ (by simp) (by simp [cntU_replicate]) ⟨rfl, rfl, ⟨rfl, rfl, rfl, Nat.le_refl _, fun _ _ => rfl⟩, fun _ _ => rfl, fun j oj d hjn hj hlj hd => ?_, fun i o hi hl => ?_, ?_⟩)
  · rw [Array.getElem?_replicate] at hlj
    split at hlj <;> cases hlj
  · rw [Array.getElem?_replicate] at hl
    split at hl <;> cases hl
  · rw [Array.getElem?_replicate, if_pos (by omega)]
end
end Go.Proofs.YtblpaocignlpkaaDoor
/-
  Small laws for the steps of a region that draws its order.
-/
namespace Go.Proofs.YtblpaocignlpkaaDoor
open Go.RowKit
set_option linter.unusedVariables false

theorem slot_some {T : Array Value} {t : Nat} {v : Value} (h : t < T.size) (hv : T.getD t undef = v) : T[t]? = some v := by
  rw [Array.getElem?_eq_getElem h]
  simp only [Array.getD_eq_getD_getElem?, Array.getElem?_eq_getElem h, Option.getD_some] at hv
  rw [hv]
theorem slot_ex {T : Array Value} {t : Nat} (h : t < T.size) : ∃ v, T[t]? = some v ∧ T.getD t undef = v := ⟨_, slot_some h rfl, rfl⟩
theorem grow_on {o oj : Oper} {ops : Array Oper} {T : Array Value} {j d : Nat} {want : Bool} {A B : Prop} (hg : o.guard = some (j, want)) (hj : ops[j]? = some oj) (hd : oj.dst = some d) (hT : T[d]? = some (.bool want)) (h : A) :
    if Region.wanted o (yielded ops T) = true then A else B := by
  rw [if_pos (by simp [Region.wanted, yielded, hg, hj, hd, hT])]
  exact h
theorem grow_off {o oj : Oper} {ops : Array Oper} {T : Array Value} {j d : Nat} {want b : Bool} {A B : Prop} (hg : o.guard = some (j, want)) (hj : ops[j]? = some oj) (hd : oj.dst = some d) (hT : T[d]? = some (.bool b)) (hne : b ≠ want) (h : B) :
    if Region.wanted o (yielded ops T) = true then A else B := by
  rw [if_neg (by simp [Region.wanted, yielded, hg, hj, hd, hT]; exact hne)]
  exact h
theorem grow_free {o : Oper} {ops : Array Oper} {T : Array Value} {A B : Prop} (hg : o.guard = none) (h : A) :
    if Region.wanted o (yielded ops T) = true then A else B := by
  rw [if_pos (by simp [Region.wanted, hg])]
  exact h
/-- The operations, without their text. -/
theorem region_abs {P : Program} {id : Nat} {lit : Array Oper} {d : Bool} {Q : Exit → Act → World → Prop} {a : Act} {w : World} (h : ∀ ops, ops = lit → (Code.region id ops d).wp P Q a w) : (Code.region id lit d).wp P Q a w := h lit rfl
theorem op_at {ops lit : Array Oper} {j : Nat} {o : Oper} (h : ops = lit) (ho : lit[j]? = some o) : ops[j]? = some o := by rw [h]; exact ho
theorem slot_abs {ops lit : Array Oper} (h : ops = lit) (t : Nat) (hs : slotOf lit t = false) : slotOf ops t = false := by rw [h]; exact hs
theorem slotN_abs {ops lit : Array Oper} {n : Nat} (h : ops = lit) (t : Nat) (hs : slotN lit n t = false) : slotN ops n t = false := by rw [h]; exact hs
theorem odt {p : Prop} [Decidable p] (h : decide p = true) : p := of_decide_eq_true h
theorem grow_guard {o oj : Oper} {ops : Array Oper} {T : Array Value} {j d : Nat} {want C : Bool} {A B : Prop} (hg : o.guard = some (j, want)) (hj : ops[j]? = some oj) (hd : oj.dst = some d) (hT : T.getD d undef = .bool C) (hs : d < T.size)
    (hon : C = want → T[d]? = some (.bool want) → A) (hoff : C = !want → B) : if Region.wanted o (yielded ops T) = true then A else B := by
  have e := slot_some hs hT
  by_cases hc : C = want
  · subst hc
    exact grow_on hg hj hd e (hon rfl e)
  · exact grow_off hg hj hd e hc (hoff (by cases C <;> cases want <;> simp_all))
/-- A step of such a region. -/
theorem step_growT {P : Program} {o : Oper} {a : Act} {w : World} {Φ : Value → World → Prop} {Q : Exit → Act → World → Prop} (h : ∀ K : Act → World → Prop, (∀ v w', Below w.heap.size w w' → Φ v w' → K (a.put o.dst v) w') → o.wp P a w K Q) : o.wp P a w (fun a' w' => ∃ v, a' = a.put o.dst v ∧ Below w.heap.size w w' ∧ Φ v w') Q :=
  h _ fun v w' hb hv => ⟨v, rfl, hb, hv⟩
/-- The last operation of such a region. -/
theorem last_k {P : Program} {o : Oper} {a : Act} {w : World} {Q : Exit → Act → World → Prop} (h : ∀ K : Act → World → Prop, (∀ a w, Q .normal a w → K a w) → o.wp P a w K Q) : o.wp P a w (fun a' w' => Q .normal a' w') Q := h _ fun _ _ h => h
theorem len_cons {l : List Value} {n : Nat} (h : l.length = n + 1) : ∃ x k, l = x :: k ∧ k.length = n := by
  cases l with
  | nil => cases h
  | cons x k => exact ⟨x, k, rfl, by simpa using h⟩
end Go.Proofs.YtblpaocignlpkaaDoor
