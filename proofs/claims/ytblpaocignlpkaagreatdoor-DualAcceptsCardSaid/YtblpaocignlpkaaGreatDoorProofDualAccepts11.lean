/-
  The zbe of package dual's Accepts at a status that is none of the three.
-/
import Derived.Test.YtblpaocignlpkaaGreatDoorCore16
import Derived.Test.YtblpaocignlpkaaGreatDoorCore17
import Derived.Test.YtblpaocignlpkaaGreatDoorProofDualAccepts08
import Derived.Test.YtblpaocignlpkaaGreatDoorProofDualAccepts09
import Derived.Test.YtblpaocignlpkaaGreatDoorProofDualAccepts10
import Derived.Test.YtblpaocignlpkaaGreatDoorCore15
import Derived.Test.YtblpaocignlpkaaGreatDoorProofDualAccepts06
import Derived.Test.YtblpaocignlpkaaGreatDoorProofDualAccepts01
import Derived.Test.YtblpaocignlpkaaGreatDoorCore02
namespace Go.Proofs.YtblpaocignlpkaaGreatDoor
open Go.RowKit Go.Maps
set_option linter.unusedVariables false
theorem int_ne {a b : Int} (h : a ≠ b) : Lit.int .i64 a ≠ Lit.int .i64 b := fun e => h (by cases e; rfl)
theorem none_at' {x : Int} {a b c z : DataW Value} (h : x ≠ 1 ∧ x ≠ 2 ∧ x ≠ 3) : ((((DataW.map []).put (.int .i64 1) a).put (.int .i64 2) b).put (.int .i64 3) c).atKey (.int .i64 x) z = z := by
  rw [atKey_put_other (int_ne h.2.2), atKey_put_other (int_ne h.2.1), atKey_put_other (int_ne h.1)]
  rfl
theorem none_at {x : Int} {a b c : DataW Value} (h : x ≠ 1 ∧ x ≠ 2 ∧ x ≠ 3) : ((((DataW.map []).put (.int .i64 1) a).put (.int .i64 2) b).put (.int .i64 3) c).atKey (.int .i64 x) (.held .nilIface) = .held .nilIface := none_at' h
theorem none_has {x : Int} {a b c : DataW Value} (h : x ≠ 1 ∧ x ≠ 2 ∧ x ≠ 3) : Maps.has ((((DataW.map []).put (.int .i64 1) a).put (.int .i64 2) b).put (.int .i64 3) c) (.int .i64 x) = false := has_false_of_atKey fun _ => none_at' h
set_option maxRecDepth 100000 in
set_option maxHeartbeats 4000000 in
theorem accepts_none {w : World} {vp vs : Value} {p : Prog} {s : Sol} (hp : IsP w (Old w) vp p) (hs : IsSol w (Old w) vs s) (hB : Bru w) (h0 : chkP p = 0) (hst : s.st ≠ 1 ∧ s.st ≠ 2 ∧ s.st ≠ 3) (hwf : (Lit.int .i64 s.st).wf = true) :
    Calls Tryz.prog 13 #[vp, vs] w fun e w' => e = .returned (.tuple #[.bool false, .int .i64 0]) ∧ Below w.heap.size w w' := by
  have hps : ∃ A cA B cB C cC P cP Q cQ X cX D cD R cR, vp = .agg #[.slice A p.A.length cA, .slice B p.B.length cB, .slice C p.C.length cC] ∧ vs = .agg #[.int .i64 s.st, .bool s.val.neg, .slice P s.val.num.length cP, .slice Q s.val.den.length cQ, .slice X s.X.length cX, .slice D s.D.length cD, .slice R s.R.length cR] ∧ IsPS w (Old w) (.agg #[.slice A p.A.length cA, .slice B p.B.length cB, .slice C p.C.length cC, .int .i64 s.st, .bool s.val.neg, .slice P s.val.num.length cP, .slice Q s.val.den.length cQ, .slice X s.X.length cX, .slice D s.D.length cD, .slice R s.R.length cR]) p s := by
    obtain ⟨A, cA, B, cB, C, cC, rfl, h1, h2, h3⟩ := hp
    obtain ⟨P, cP, Q, cQ, X, cX, D, cD, R, cR, rfl, h4, h5, h6, h7⟩ := hs
    exact ⟨A, cA, B, cB, C, cC, P, cP, Q, cQ, X, cX, D, cD, R, cR, rfl, rfl, A, cA, B, cB, C, cC, P, cP, Q, cQ, X, cX, D, cD, R, cR, rfl, h1, h2, h3, h4, h5, h6, h7⟩
  have HP := Lib.hid hp
  have HB := Lib.hid hB
  clear hp hs hB
  obtain ⟨A, cA, B, cB, C, cC, P, cP, Q, cQ, X, cX, D, cD, R, cR, rfl, rfl, hv⟩ := hps
  have He0 := Lib.hid h0
  have Hst := Lib.hid hst
  have Hwf := Lib.hid hwf
  clear hv h0 hst hwf
  obtain ⟨w0, hw0, hb0, rP, rS, Hz⟩ := zcl w #[.slice A p.A.length cA, .slice B p.B.length cB, .slice C p.C.length cC] #[.int .i64 s.st, .bool s.val.neg, .slice P s.val.num.length cP, .slice Q s.val.den.length cQ, .slice X s.X.length cX, .slice D s.D.length cD, .slice R s.R.length cR] 27 33
  have HB0 := Lib.hid hb0
  have RP := Lib.hid rP
  have RS := Lib.hid rS
  obtain ⟨p0, p1, p2⟩ := zad rP
  obtain ⟨s0, s1, s2, s3, s4, s5, s6⟩ := zba rS
  clear hb0 rP rS
  have hmm := @run_makeMap Tryz.prog
  go_enter Tryz.func13, Tryz.ntmps13
  go_wp2_with fail
  clear hw0
  refine (zdv HP.out HB.out HB0.out).mono ?_
  rw [He0.out]
  rintro e w1 ⟨rfl, hb⟩
  have hb1 := zaa HB0.out hb
  have HB1 := Lib.hid hb1
  have rP1 := RP.out.next hb
  have rS1 := RS.out.next hb
  have hzs := Hz.out
  have hs1 := hb.size
  have n1 : w.heap.size ≠ w1.heap.size := by omega
  have n2 : w.heap.size + 1 ≠ w1.heap.size := by omega
  have hown0 := World.ownsMap_made w1 Tryz.prog 3 zdc
  have hbA : Below w.heap.size w (w1.alloc (.map #[] 0)) := zae hb1 _
  have hsA : (w1.alloc (.map #[] 0)).heap.size = w1.heap.size + 1 := World.size_alloc _ _
  have rPA := rP1.alloc (.map #[] 0)
  have rSA := rS1.alloc (.map #[] 0)
  obtain ⟨p0, p1, p2⟩ := zad rPA
  obtain ⟨s0, s1, s2, s3, s4, s5, s6⟩ := zba rSA
  clear hb hzs
  go_wp2_with (first
    | (at_lookup; refine zdh _ rfl _ _ 89 rfl 3 91 zet Tryz.underlying89 (zeroCert _) w1.heap.size 3 _ rfl hown3 _ _ rfl (keyAt (x := s.st) Hwf.out) .nilIface false (none_at Hst.out) (none_has Hst.out) ?_)
    | (refine zbh _ rfl _ _ _ 89 rfl 3 91 zet Tryz.underlying89 zdc w1.heap.size 2 _ rfl hown2 (by unfold maxLen; omega) (.int .i64 3) (.iface 88 (.agg #[.slice A p.A.length cA, .slice B p.B.length cB, .slice C p.C.length cC, .int .i64 s.st, .bool s.val.neg, .slice P s.val.num.length cP, .slice Q s.val.den.length cQ, .slice X s.X.length cX, .slice D s.D.length cD, .slice R s.R.length cR])) _ rfl rfl (keyAt (x := 3) (by decide)) _ [] rfl ?_; intro x3 hown3 hg3; have rP_3 := Row.grownB rP_2 hg3 n1; have rS_3 := Row.grownB rS_2 hg3 n2; have hb_3 := Below.grown hb_2 hg3 hb_2.size (fun k hk => by cases hk; exact hb1.size); obtain ⟨p0, p1, p2⟩ := zad rP_3; obtain ⟨s0, s1, s2, s3, s4, s5, s6⟩ := zba rS_3)
    | (refine zbh _ rfl _ _ _ 89 rfl 3 91 zet Tryz.underlying89 zdc w1.heap.size 1 _ rfl hown1 (by unfold maxLen; omega) (.int .i64 2) (.iface 87 (.agg #[.slice A p.A.length cA, .slice B p.B.length cB, .slice C p.C.length cC, .int .i64 s.st, .bool s.val.neg, .slice P s.val.num.length cP, .slice Q s.val.den.length cQ, .slice X s.X.length cX, .slice D s.D.length cD, .slice R s.R.length cR])) _ rfl rfl (keyAt (x := 2) (by decide)) _ [] rfl ?_; intro x2 hown2 hg2; have rP_2 := Row.grownB rP_1 hg2 n1; have rS_2 := Row.grownB rS_1 hg2 n2; have hb_2 := Below.grown hb_1 hg2 hb_1.size (fun k hk => by cases hk; exact hb1.size); obtain ⟨p0, p1, p2⟩ := zad rP_2; obtain ⟨s0, s1, s2, s3, s4, s5, s6⟩ := zba rS_2)
    | (refine zbh _ rfl _ _ _ 89 rfl 3 91 zet Tryz.underlying89 zdc w1.heap.size 0 _ rfl hown0 (by unfold maxLen; omega) (.int .i64 1) (.iface 86 (.agg #[.slice A p.A.length cA, .slice B p.B.length cB, .slice C p.C.length cC, .int .i64 s.st, .bool s.val.neg, .slice P s.val.num.length cP, .slice Q s.val.den.length cQ, .slice X s.X.length cX, .slice D s.D.length cD, .slice R s.R.length cR])) _ rfl rfl (keyAt (x := 1) (by decide)) _ [] rfl ?_; intro x1 hown1 hg1; have rP_1 := Row.grownB rPA hg1 n1; have rS_1 := Row.grownB rSA hg1 n2; have hb_1 := Below.grown hbA hg1 hbA.size (fun k hk => by cases hk; exact hb1.size); obtain ⟨p0, p1, p2⟩ := zad rP_1; obtain ⟨s0, s1, s2, s3, s4, s5, s6⟩ := zba rS_1))
  go_ret2
  exact ⟨rfl, hb_3⟩
end Go.Proofs.YtblpaocignlpkaaGreatDoor
namespace Go.Proofs.YtblpaocignlpkaaGreatDoor
open Go.RowKit Go.WideShapes Go.ChangeShapes Go.Deep
set_option linter.unusedVariables false
def In64 (n : Int) : Prop := -9223372036854775808 ≤ n ∧ n ≤ 9223372036854775807
theorem in64_of {n : Int} (h : (Lit.int .i64 n).wf = true) : In64 n := by
  rw [Lit.wf, Bool.and_eq_true, decide_eq_true_eq, decide_eq_true_eq] at h
  exact h
def IsIL (w : World) (S : Nat → Prop) (v : Value) (l : List Int) : Prop :=
  ∃ A c, v = .slice A l.length c ∧ l.length ≤ c ∧ c ≤ maxLen ∧ SVS w S A (l.map fun x => .int .i64 x) ∧ ∀ x ∈ l, In64 x
theorem IsIL.stb : Stb IsIL := by
  rintro w w' S T v l ⟨A, c, hv, h1, h2, h3, h4⟩ hs
  exact ⟨A, c, hv, h1, h2, h3.same hs, h4⟩
theorem isIL_get {w : World} {S : Nat → Prop} {A : Option Addr} {n c : Nat} {l : List Int} (h : IsIL w S (.slice A n c) l) {j : Nat} {x : Int} (hj : l[j]? = some x) :
    In64 x ∧ ∃ b off, A = some ⟨b, off, none⟩ ∧ S b ∧ w.cell? ⟨b, off + j, none⟩ = some (.int .i64 x) := by
  obtain ⟨A', c', hv, h1, h2, h3, h4⟩ := h
  simp only [Value.slice.injEq] at hv
  obtain ⟨rfl, rfl, rfl⟩ := hv
  have hlt := (List.getElem?_eq_some_iff.1 hj).1
  obtain ⟨b, off, hA, hb, hc⟩ := h3 (fun e => by have := congrArg List.length e; simp at this; rw [this] at hlt; simp at hlt)
  exact ⟨h4 x (List.mem_of_getElem? hj), b, off, hA, hb, hc j _ (by rw [List.getElem?_map, hj]; rfl)⟩
section
variable {H : Type} {enc : TypeId × Value → H} {w : World} {base base0 : Nat} {sp : Nat → Bool} {held : Bool}
set_option maxRecDepth 100000 in
theorem open_int_list {v : Value} {d : DataW H} {ps : List MemPlace} (hlt : ∀ x ∈ ps, x.block < w.heap.size) (hval : Value.okWide Tryz.prog w .any base0 53 v) (h : DataW.Trod enc Tryz.prog w base sp held 53 v d ps) : ∃ l : List Int, IsIL w (Old w) v l := by
  obtain ⟨a, len, cap, rfl⟩ := okWide_slice Tryz.underlying53 hval
  obtain ⟨fuel, hf⟩ := h
  rcases open_ints Tryz.underlying53 Tryz.underlying3 (by kernel_rfl) hf with ⟨hv, _⟩ | ⟨a, len, cap, zs, hv, _, hl, hm, hz, hx, hcell, hwz⟩
  · simp only [Value.cells, List.cons.injEq, and_true] at hv
    rw [hv]
    exact ⟨[], none, 0, rfl, Nat.le_refl _, Nat.zero_le _, SVS.nil, fun x hx => by cases hx⟩
  · simp only [Value.cells, List.cons.injEq, and_true] at hv
    rw [hv]
    have hlz : len ≤ zs.length := by rw [hz]; split <;> omega
    have hlen : (zs.take len).length = len := by simp; omega
    refine ⟨zs.take len, some a, cap, by rw [hlen], by rw [hlen]; exact hl, hm, fun hne => ?_, fun x hx => in64_of (hwz x (List.mem_of_mem_take hx))⟩
    have hpos : 0 < zs.length := by
      rcases Nat.eq_zero_or_pos zs.length with h0 | h0
      · exact absurd (by rw [List.length_eq_zero_iff.1 h0]; simp) hne
      · exact h0
    obtain ⟨b, off, rfl, hcc⟩ := ints_at hcell hpos
    refine ⟨b, off, rfl, World.block_lt_of_cell? w _ (hcc 0 hpos), fun j u hu => ?_⟩
    rw [List.getElem?_map, List.getElem?_take] at hu
    split at hu
    case isFalse => simp at hu
    case isTrue hj =>
      have hjz : j < zs.length := by omega
      rw [List.getElem?_eq_getElem hjz] at hu
      simp only [Option.map_some, Option.some.injEq] at hu
      subst hu
      rw [hcc j hjz, List.getD_eq_getElem?_getD, List.getElem?_eq_getElem hjz, Option.getD_some]
end
end Go.Proofs.YtblpaocignlpkaaGreatDoor
namespace Go.Proofs.YtblpaocignlpkaaGreatDoor
open Go.RowKit
set_option linter.unusedVariables false
set_option maxRecDepth 100000 in
set_option maxHeartbeats 2000000 in
theorem zdf {w : World} {vp vs : Value} {p : Prog} {s : Sol} {b : Bool} (hp : IsP w (Old w) vp p) (hs : IsSol w (Old w) vs s)
    (hA : chkP p = 0 → ∀ W, Below w.heap.size w W → Calls Tryz.prog 55 #[vp, vs] W fun e w' => e = .returned (.bool b) ∧ Below W.heap.size W w') (hb : chkP p ≠ 0 → b = false) :
    Calls Tryz.prog 14 #[vp, vs] w fun e w' => e = .returned (.tuple #[.bool b, .int .i64 (chkP p)]) ∧ Below w.heap.size w w' := by
  have HP := Lib.hid hp
  have HA := Lib.hid hA
  have HB := Lib.hid hb
  obtain ⟨A, cA, B, cB, C, cC, rfl, _, _, _⟩ := hp
  obtain ⟨P, cP, Q, cQ, X, cX, D, cD, R, cR, rfl, _⟩ := hs
  obtain ⟨e0, he0⟩ : ∃ x, x = chkP p := ⟨_, rfl⟩
  have He0 := Lib.hid he0
  rw [← he0] at HA HB ⊢
  clear he0 hA hb
  obtain ⟨w0, hw0, hb0, rP, rS, Hz⟩ := zcl w #[.slice A p.A.length cA, .slice B p.B.length cB, .slice C p.C.length cC] #[.int .i64 s.st, .bool s.val.neg, .slice P s.val.num.length cP, .slice Q s.val.den.length cQ, .slice X s.X.length cX, .slice D s.D.length cD, .slice R s.R.length cR] 27 33
  have HB0 := Lib.hid hb0
  have RP := Lib.hid rP
  have RS := Lib.hid rS
  obtain ⟨p0, p1, p2⟩ := zad rP
  obtain ⟨s0, s1, s2, s3, s4, s5, s6⟩ := zba rS
  clear hb0 rP rS
  by_cases h0 : e0 = 0
  · subst h0
    go_enter Tryz.func14, Tryz.ntmps14
    go_wp2_with fail
    clear hw0
    refine (zez HP.out HB0.out).mono ?_
    rw [← He0.out]
    rintro e w1 ⟨rfl, hb⟩
    have HB1 := Lib.hid (zaa HB0.out hb)
    have RP1 := RP.out.next hb
    have RS1 := RS.out.next hb
    clear p0 p1 p2 s0 s1 s2 s3 s4 s5 s6 hb
    obtain ⟨p0, p1, p2⟩ := zad RP1
    obtain ⟨s0, s1, s2, s3, s4, s5, s6⟩ := zba RS1
    go_wp2_with fail
    refine (HA.out (by trivial) _ HB1.out).mono ?_
    rintro e w2 ⟨rfl, hb⟩
    go_wp2_with fail
    go_ret2
    exact ⟨rfl, zaa HB1.out hb⟩
  · have hbf := HB.out h0
    subst hbf
    have b0 : (e0 != 0) = true := bne_iff_ne.2 h0
    clear h0
    go_enter Tryz.func14, Tryz.ntmps14
    go_wp2_with fail
    clear hw0
    refine (zez HP.out HB0.out).mono ?_
    rw [← He0.out]
    rintro e w1 ⟨rfl, hb⟩
    go_wp2_with fail
    go_ret2
    exact ⟨rfl, zaa HB0.out hb⟩
theorem feasW {w : World} {vp vx : Value} {q : ProgQ} {x : List Rat} {CC : List Raw} (hp : IsP w (Old w) vp ⟨rawM q.A, rawV q.B, CC⟩) (hg : Good q 1024) (hx : IsV w (Old w) vx (rawV x)) (hl : x.length = q.C.length) (hs : ∀ e ∈ x, Sz e 1024) :
    ∀ W, Below w.heap.size w W → Calls Tryz.prog 77 #[vp, vx] W fun e w' => e = .returned (.bool (zeg q.A q.B x)) ∧ Below W.heap.size W w' := fun W hW => by
  rw [feas_rest]
  exact rfeas_l (CC := CC) (IsP.stb.to hp (zag hW)) (IsV.stb.to hx (zag hW)) hg.rows (fun row h => (hg.cols row h).trans hl.symm) hg.szA hg.szB hs (by rw [hl]; exact hg.nC) hg.nB
theorem sufW {w : World} {vx : Value} {q : ProgQ} {y : List Rat} (hg : Good q 1024) (hx : IsV w (Old w) vx (rawV y)) (hl : y.length = q.B.length) (hs : ∀ e ∈ y, Sz e 1024) :
    ∀ W v, Below w.heap.size w W → IsP W (Old W) v (rawP (zca q)) → Calls Tryz.prog 77 #[v, vx] W fun e w' => e = .returned (.bool (sufB q.A q.C y)) ∧ Below W.heap.size W w' := fun W v hW hv => by
  have hd := good_dual hg
  have h := feasW (q := zca q) (CC := rawV (zca q).C) hv hd (IsV.stb.to hx (zag hW)) (by rw [hl]; exact (negV_len _).symm) hs W (Below.refl _ _)
  rw [feas_rest] at h
  rw [suf_rest]
  exact h
theorem prodW {w : World} {va vb : Value} {a b : List Rat} (ha : IsV w (Old w) va (rawV a)) (hb : IsV w (Old w) vb (rawV b)) (hl : b.length = a.length) (h40 : a.length ≤ 40) (sa : ∀ q ∈ a, Sz q 1024) (sb : ∀ q ∈ b, Sz q 1024) :
    ∀ W, Below w.heap.size w W → Calls Tryz.prog 62 #[va, vb] W (RetQ W (dotQ a b)) := fun W hW => product_q (M := a.length) (IsV.stb.to ha (zag hW)) (IsV.stb.to hb (zag hW)) rfl hl h40 sa sb
theorem ordW {w : World} {vv : Value} {a b : Rat} (hv : IsR w (Old w) vv (raw b)) (sa : Sz a 100000) (sb : Sz b 1024) :
    ∀ W v, Below w.heap.size w W → IsQ W (Old W) v a → Calls Tryz.prog 112 #[v, vv] W fun e w' => e = .returned (.int .i64 (cmpQ a b)) ∧ Below W.heap.size W w' := fun W v hW h => rorder_q h (IsR.stb.to hv (zag hW)) sa (sb.le (by omega))
theorem rightW {w : World} {v : Value} {l : List Raw} {n : Nat} (h : IsV w (Old w) v l) (hn : n ≤ 40) : ∀ W, Below w.heap.size w W → Calls Tryz.prog 111 #[v, .int .i64 (n : Nat)] W fun e w' => e = .returned (.bool (zav l n)) ∧ Below W.heap.size W w' := fun W hW => right_l (IsV.stb.to h (zag hW)) hn
def AccW (f : FuncId) (p : Prog) (s : Sol) (b : Bool) (e : Int) : Prop := ∀ (W : World) (vp vs : Value), Bru W → IsP W (Old W) vp p → IsSol W (Old W) vs s → Calls Tryz.prog f #[vp, vs] W fun en w' => en = .returned (.tuple #[.bool b, .int .i64 e]) ∧ Below W.heap.size W w'
theorem zcq {w W : World} {vs : Value} {s : Sol} (h : IsSol w (Old w) vs s) (hW : Below w.heap.size w W) : IsSol W (Old W) vs s := IsSol.stb.to h (zag hW)
theorem andE {a b c : Bool} : ((a && b) && c) = true ↔ a = true ∧ b = true ∧ c = true := by cases a <;> cases b <;> cases c <;> simp
theorem good_bareC {q : ProgQ} (h : Good q 1024) : Good ⟨q.A, q.B, zbj q.C.length⟩ 1024 := ⟨h.rows, fun row hr => by rw [zbk]; exact h.cols row hr, h.szA, h.szB, fun x hx => by rw [List.eq_of_mem_replicate hx]; exact Sz.zero.le (by omega), h.nB, by rw [zbk]; exact h.nC⟩
theorem good_bareB {q : ProgQ} (h : Good q 1024) : Good ⟨q.A, zbj q.B.length, q.C⟩ 1024 := ⟨by rw [zbk]; exact h.rows, h.cols, h.szA, fun x hx => by rw [List.eq_of_mem_replicate hx]; exact Sz.zero.le (by omega), h.szC, by rw [zbk]; exact h.nB, h.nC⟩
theorem acc_1 {p : Prog} {s : Sol} {q : ProgQ} (hpq : p = rawP q) (hg : Good q 1024) (h0 : chkP p = 0) (hst : s.st = 1) : ∃ b, AccW 13 p s b 0 ∧ AccW 14 p s b 0 := by
  have n40 : p.C.length ≤ 40 := by rw [hpq]; show (rawV q.C).length ≤ 40; rw [zay]; exact hg.nC
  have m40 : p.B.length ≤ 40 := by rw [hpq]; show (rawV q.B).length ≤ 40; rw [zay]; exact hg.nB
  have hne : chkP p ≠ 0 → ∀ {b : Bool}, b = false := fun h => absurd h0 h
  by_cases hpr : zch p s = true
  · obtain ⟨x, y, z, hq⟩ := optProper_q hpq hg hpr
    have hpr' := hpr
    unfold zch at hpr'
    rw [Bool.and_eq_true, Bool.and_eq_true, Bool.and_eq_true, decide_eq_true_eq, decide_eq_true_eq] at hpr'
    obtain ⟨⟨⟨hp1, hp2⟩, hp3⟩, hp4⟩ := hpr'
    refine ⟨(true && zds q x y && optEqual q x y z), fun W vp vs hB hp hs => accepts_1 hp hs hB h0 hst (fun v hv W' hW' => ?_), fun W vp vs hB hp hs => ?_⟩
    · have h := optProves_l (IsPS.to hv (zag hW')) (Bru.next hB hW') (fun _ => ⟨q, x, y, z, hq, rfl, rfl⟩)
      rw [hpr] at h
      exact h
    · have h := zdf (b := (true && zds q x y && optEqual q x y z)) hp hs (fun _ W' hW' => ?_) (fun h => hne h)
      · rw [h0] at h
        exact h
      · have hz : Sz (dotQ q.C x) 100000 := zel hg.szC hq.sx hg.nC
        have hz2 : Sz (dotQ q.B y) 100000 := zel hg.szB hq.sy hg.nB
        have h := raccepts_opt_of (w := W') (q := q) (b0 := true) (b1 := true) (b2 := true) (g1 := zeg q.A q.B x) (g2 := sufB q.A q.C y) (o1 := decide (cmpQ (dotQ q.C x) z = 0)) (o2 := decide (cmpQ (dotQ q.B y) z = 0)) (zc := dotQ q.C x) (zb := dotQ q.B y)
          (IsP.stb.to hp (zag hW')) (zcq hs hW') hp4 n40 m40 hst (by rw [decide_eq_true hp3]) rfl rfl
          (fun v hv => by rw [← hp1]; exact rightW hv n40) (fun v hv => by rw [← hp2]; exact rightW hv m40)
          (fun _ vx hv W2 hW2 => by
            have hpp : IsP W2 (Old W2) vp (rawP q) := by rw [← hpq]; exact IsP.stb.to hp (zag (zaa hW' hW2))
            rw [hq.X] at hv
            exact feasW (CC := rawV q.C) hpp hg (IsV.stb.to hv (zag hW2)) hq.lx hq.sx W2 (Below.refl _ _))
          (fun _ W2 hW2 => rof_l (q := q) (by rw [← hpq]; exact IsP.stb.to hp (zag (zaa hW' hW2))) hg)
          (fun _ vx hv => by rw [hq.D] at hv; exact sufW hg hv hq.ly hq.sy)
          (fun _ va vb ha hb => by rw [hpq] at ha; rw [hq.X] at hb; exact prodW (a := q.C) ha hb hq.lx hg.nC hg.szC hq.sx)
          (fun _ vv hv => by rw [hq.val] at hv; exact ordW hv hz hq.sz)
          (fun _ va vb ha hb => by rw [hpq] at ha; rw [hq.D] at hb; exact prodW (a := q.B) ha hb hq.ly hg.nB hg.szB hq.sy)
          (fun _ vv hv => by rw [hq.val] at hv; exact ordW hv hz2 hq.sz)
        refine h.mono fun e w' ⟨he, hb⟩ => ⟨?_, hb⟩
        rw [he]
        have e1 : decide (cmpQ (dotQ q.C x) z = 0) = decide (dotQ q.C x = z) := decide_eq_decide.2 cmpQ_zero
        have e2 : decide (cmpQ (dotQ q.B y) z = 0) = decide (dotQ q.B y = z) := decide_eq_decide.2 cmpQ_zero
        rw [e1, e2]
        unfold zds optEqual
        congr 2
        cases zeg q.A q.B x <;> cases sufB q.A q.C y <;> cases decide (dotQ q.C x = z) <;> cases decide (dotQ q.B y = z) <;> rfl
  · have hpf : zch p s = false := by simpa using hpr
    refine ⟨false, fun W vp vs hB hp hs => accepts_1 hp hs hB h0 hst (fun v hv W' hW' => ?_), fun W vp vs hB hp hs => ?_⟩
    · have h := optProves_l (b2 := false) (b3 := false) (IsPS.to hv (zag hW')) (Bru.next hB hW') (fun h => absurd h hpr)
      rw [hpf] at h
      exact h
    · have h := zdf (b := false) hp hs (fun _ W' hW' => ?_) (fun h => rfl)
      · rw [h0] at h
        exact h
      · by_cases hv0 : chkQ s.val = 0
        · obtain ⟨zv, hzv⟩ := chkQ_ok hv0
          have hb : ((decide (s.R.length = 0) && zav s.X p.C.length) && zav s.D p.B.length) = false := by
            unfold zch at hpf
            rw [decide_eq_true hv0] at hpf
            cases h1 : decide (s.R.length = 0) <;> cases h2 : zav s.X p.C.length <;> cases h3 : zav s.D p.B.length <;> simp_all
          have hb' : ∀ {P : Prop}, ((decide (s.R.length = 0) && zav s.X p.C.length) && zav s.D p.B.length) = true → P := fun h => by rw [hb] at h; cases h
          have h := raccepts_opt_of (w := W') (q := q) (b0 := decide (s.R.length = 0)) (b1 := zav s.X p.C.length) (b2 := zav s.D p.B.length) (g1 := false) (g2 := false) (o1 := true) (o2 := true) (k1 := 0) (k2 := 0) (zc := 0) (zb := 0)
            (IsP.stb.to hp (zag hW')) (zcq hs hW') hv0 n40 m40 hst rfl rfl rfl
            (fun v hv => rightW hv n40) (fun v hv => rightW hv m40) (fun h => hb' h) (fun h => hb' h) (fun h => hb' h) (fun h => hb' h) (fun h => hb' h) (fun h => hb' h) (fun h => hb' h)
          refine h.mono fun e w' ⟨he, hb2⟩ => ⟨?_, hb2⟩
          rw [he, hb]
          rfl
        · exact zfk (IsP.stb.to hp (zag hW')) (zcq hs hW') hv0
theorem nothing_chk {r : Raw} (h : zco r = true) : chkQ r = 0 ∧ r = raw 0 := by
  unfold zco at h
  rw [decide_eq_true_eq] at h
  rw [h]
  exact ⟨chkQ_raw (Sz.zero.le (by omega)), rfl⟩
theorem nothing_dec {z : Rat} : zco (raw z) = decide (z = 0) := by
  unfold zco
  exact decide_eq_decide.2 ⟨fun h => raw_inj h, fun h => by rw [h]⟩
theorem zeroW {w : World} {r : Raw} {z : Rat} (hr : r = raw z) : ∀ u, IsR w (Old w) u r → ∀ W, Below w.heap.size w W → Calls Tryz.prog 69 #[u] W fun e w' => e = .returned (.bool (decide (z = 0))) ∧ Below W.heap.size W w' := fun u hu W hW => by
  rw [hr] at hu
  exact rzero_q (IsR.stb.to hu (zag hW))
theorem acc_2 {p : Prog} {s : Sol} {q : ProgQ} (hpq : p = rawP q) (hg : Good q 1024) (h0 : chkP p = 0) (hst : s.st = 2) : ∃ b, AccW 13 p s b 0 ∧ AccW 14 p s b 0 := by
  have eC : p.C.length = q.C.length := by rw [hpq]; exact zay _
  have n40 : p.C.length ≤ 40 := by rw [eC]; exact hg.nC
  have m40 : p.B.length ≤ 40 := by rw [hpq]; show (rawV q.B).length ≤ 40; rw [zay]; exact hg.nB
  have hne : chkP p ≠ 0 → ∀ {b : Bool}, b = false := fun h => absurd h0 h
  by_cases hpr : zcv p s = true
  · obtain ⟨y, hq⟩ := infProper_q hpq hg hpr
    have hpr' := hpr
    unfold zcv at hpr'
    rw [Bool.and_eq_true, Bool.and_eq_true, Bool.and_eq_true, decide_eq_true_eq, decide_eq_true_eq] at hpr'
    obtain ⟨⟨⟨hp1, hp2⟩, hp3⟩, hp4⟩ := hpr'
    obtain ⟨hp5, hp6⟩ := nothing_chk hp4
    refine ⟨(true && zed q y && infContra q y), fun W vp vs hB hp hs => accepts_2 hp hs hB h0 hst (fun v hv W' hW' => ?_), fun W vp vs hB hp hs => ?_⟩
    · have h := infProves_l (IsPS.to hv (zag hW')) (Bru.next hB hW') (fun _ => ⟨q, y, hq, rfl, rfl⟩)
      rw [hpr] at h
      exact h
    · have h := zdf (b := (true && zed q y && infContra q y)) hp hs (fun _ W' hW' => ?_) (fun h => hne h)
      · rw [h0] at h
        exact h
      · have hgb := good_bareC hg
        have h := raccepts_inf_of (w := W') (q := ⟨q.A, q.B, zbj q.C.length⟩) (z := decide ((0 : Rat) = 0)) (a1 := true) (a2 := true) (b2 := true) (g2 := sufB q.A (zbj q.C.length) y) (sg := decide ((dotQ q.B y).num < 0)) (zb := dotQ q.B y)
          (IsP.stb.to hp (zag hW')) (zcq hs hW') hp5 n40 m40 hst (by rw [decide_eq_true hp2]) (by rw [decide_eq_true hp3]) rfl
          (zeroW hp6) (fun v hv => by rw [← hp1]; exact rightW hv m40)
          (fun _ W2 v hW2 hv => rof_l (q := ⟨q.A, q.B, zbj q.C.length⟩) (by rw [eC] at hv; rw [hpq] at hv; exact hv) hgb)
          (fun _ vx hv => by rw [hq.D] at hv; exact sufW (q := ⟨q.A, q.B, zbj q.C.length⟩) hgb hv hq.ly hq.sy)
          (fun _ va vb ha hb => by rw [hpq] at ha; rw [hq.D] at hb; exact prodW (a := q.B) ha hb hq.ly hg.nB hg.szB hq.sy)
        refine h.mono fun e w' ⟨he, hb⟩ => ⟨?_, hb⟩
        rw [he, decide_eq_true rfl]
        unfold zed infContra
        congr 2
        all_goals (cases sufB q.A (zbj q.C.length) y <;> cases decide ((dotQ q.B y).num < 0) <;> rfl)
  · have hpf : zcv p s = false := by simpa using hpr
    refine ⟨false, fun W vp vs hB hp hs => accepts_2 hp hs hB h0 hst (fun v hv W' hW' => ?_), fun W vp vs hB hp hs => ?_⟩
    · have h := infProves_l (b2 := false) (b3 := false) (IsPS.to hv (zag hW')) (Bru.next hB hW') (fun h => absurd h hpr)
      rw [hpf] at h
      exact h
    · have h := zdf (b := false) hp hs (fun _ W' hW' => ?_) (fun h => rfl)
      · rw [h0] at h
        exact h
      · by_cases hv0 : chkQ s.val = 0
        · obtain ⟨zv, hzv⟩ := chkQ_ok hv0
          have hb : (((decide (zv = 0) && decide (s.X.length = 0)) && decide (s.R.length = 0)) && zav s.D p.B.length) = false := by
            unfold zcv at hpf
            rw [hzv, nothing_dec] at hpf
            cases h1 : decide (s.R.length = 0) <;> cases h2 : decide (s.X.length = 0) <;> cases h3 : zav s.D p.B.length <;> cases h4 : decide (zv = 0) <;> simp_all
          have hb' : ∀ {P : Prop}, (((decide (zv = 0) && decide (s.X.length = 0)) && decide (s.R.length = 0)) && zav s.D p.B.length) = true → P := fun h => by rw [hb] at h; cases h
          have h := raccepts_inf_of (w := W') (q := q) (z := decide (zv = 0)) (a1 := decide (s.X.length = 0)) (a2 := decide (s.R.length = 0)) (b2 := zav s.D p.B.length) (g2 := false) (sg := false) (zb := 0)
            (IsP.stb.to hp (zag hW')) (zcq hs hW') hv0 n40 m40 hst rfl rfl (by decide)
            (zeroW hzv) (fun v hv => rightW hv m40) (fun h => hb' h) (fun h => hb' h) (fun h => hb' h)
          refine h.mono fun e w' ⟨he, hb2⟩ => ⟨?_, hb2⟩
          rw [he, hb]
          rfl
        · exact zfk (IsP.stb.to hp (zag hW')) (zcq hs hW') hv0
theorem acc_3 {p : Prog} {s : Sol} {q : ProgQ} (hpq : p = rawP q) (hg : Good q 1024) (h0 : chkP p = 0) (hst : s.st = 3) : ∃ b, AccW 13 p s b 0 ∧ AccW 14 p s b 0 := by
  have eB : p.B.length = q.B.length := by rw [hpq]; exact zay _
  have n40 : p.C.length ≤ 40 := by rw [hpq]; show (rawV q.C).length ≤ 40; rw [zay]; exact hg.nC
  have m40 : p.B.length ≤ 40 := by rw [eB]; exact hg.nB
  have hne : chkP p ≠ 0 → ∀ {b : Bool}, b = false := fun h => absurd h0 h
  by_cases hpr : zcr p s = true
  · obtain ⟨x, r, hq⟩ := unbProper_q hpq hg hpr
    have hpr' := hpr
    unfold zcr at hpr'
    rw [Bool.and_eq_true, Bool.and_eq_true, Bool.and_eq_true, decide_eq_true_eq] at hpr'
    obtain ⟨⟨⟨hp1, hp2⟩, hp3⟩, hp4⟩ := hpr'
    obtain ⟨hp5, hp6⟩ := nothing_chk hp4
    refine ⟨(true && zdn q x r && unbGrows q r), fun W vp vs hB hp hs => accepts_3 hp hs hB h0 hst (fun v hv W' hW' => ?_), fun W vp vs hB hp hs => ?_⟩
    · have h := unbProves_l (IsPS.to hv (zag hW')) (Bru.next hB hW') (fun _ => ⟨q, x, r, hq, rfl, rfl⟩)
      rw [hpr] at h
      exact h
    · have h := zdf (b := (true && zdn q x r && unbGrows q r)) hp hs (fun _ W' hW' => ?_) (fun h => hne h)
      · rw [h0] at h
        exact h
      · have hgb := good_bareB hg
        have h := raccepts_unb_of (w := W') (z := decide ((0 : Rat) = 0)) (a1 := true) (b1 := true) (b3 := true) (g1 := zeg q.A q.B x) (g3 := zeg q.A (zbj q.B.length) r) (ps := decide (0 < dotQ q.C r)) (zc := dotQ q.C r)
          (IsP.stb.to hp (zag hW')) (zcq hs hW') hp5 n40 m40 hst (by rw [decide_eq_true hp3])
          (zeroW hp6) (fun v hv => by rw [← hp1]; exact rightW hv n40) (fun v hv => by rw [← hp2]; exact rightW hv n40)
          (fun _ vx hv W2 hW2 => by
            have hpp : IsP W2 (Old W2) vp (rawP q) := by rw [← hpq]; exact IsP.stb.to hp (zag (zaa hW' hW2))
            rw [hq.X] at hv
            exact feasW (CC := rawV q.C) hpp hg (IsV.stb.to hv (zag hW2)) hq.lx hq.sx W2 (Below.refl _ _))
          (fun _ vx hv W2 v hW2 hv2 => by
            rw [hq.R] at hv
            rw [eB] at hv2
            rw [hpq] at hv2
            exact feasW (q := ⟨q.A, zbj q.B.length, q.C⟩) (CC := rawV q.C) hv2 hgb (IsV.stb.to hv (zag hW2)) hq.lr hq.sr W2 (Below.refl _ _))
          (fun _ va vb ha hb => by rw [hpq] at ha; rw [hq.R] at hb; exact prodW (a := q.C) ha hb hq.lr hg.nC hg.szC hq.sr)
          (fun _ W2 v hW2 hv => positive_l hv)
        refine h.mono fun e w' ⟨he, hb⟩ => ⟨?_, hb⟩
        rw [he, decide_eq_true rfl]
        unfold zdn unbGrows
        congr 2
        all_goals (cases zeg q.A q.B x <;> cases zeg q.A (zbj q.B.length) r <;> cases decide (0 < dotQ q.C r) <;> rfl)
  · have hpf : zcr p s = false := by simpa using hpr
    refine ⟨false, fun W vp vs hB hp hs => accepts_3 hp hs hB h0 hst (fun v hv W' hW' => ?_), fun W vp vs hB hp hs => ?_⟩
    · have h := unbProves_l (b2 := false) (b3 := false) (IsPS.to hv (zag hW')) (Bru.next hB hW') (fun h => absurd h hpr)
      rw [hpf] at h
      exact h
    · have h := zdf (b := false) hp hs (fun _ W' hW' => ?_) (fun h => rfl)
      · rw [h0] at h
        exact h
      · by_cases hv0 : chkQ s.val = 0
        · obtain ⟨zv, hzv⟩ := chkQ_ok hv0
          have hb : (((decide (zv = 0) && decide (s.D.length = 0)) && zav s.X p.C.length) && zav s.R p.C.length) = false := by
            unfold zcr at hpf
            rw [hzv, nothing_dec] at hpf
            cases h1 : decide (s.D.length = 0) <;> cases h2 : zav s.X p.C.length <;> cases h3 : zav s.R p.C.length <;> cases h4 : decide (zv = 0) <;> simp_all
          have hb' : ∀ {P : Prop}, (((decide (zv = 0) && decide (s.D.length = 0)) && zav s.X p.C.length) && zav s.R p.C.length) = true → P := fun h => by rw [hb] at h; cases h
          have h := raccepts_unb_of (w := W') (z := decide (zv = 0)) (a1 := decide (s.D.length = 0)) (b1 := zav s.X p.C.length) (b3 := zav s.R p.C.length) (g1 := false) (g3 := false) (ps := false) (zc := 0)
            (IsP.stb.to hp (zag hW')) (zcq hs hW') hv0 n40 m40 hst rfl
            (zeroW hzv) (fun v hv => rightW hv n40) (fun v hv => rightW hv n40) (fun h => hb' h) (fun h => hb' h) (fun h => hb' h) (fun h => hb' h)
          refine h.mono fun e w' ⟨he, hb2⟩ => ⟨?_, hb2⟩
          rw [he, hb]
          rfl
        · exact zfk (IsP.stb.to hp (zag hW')) (zcq hs hW') hv0
theorem acc_all (p : Prog) (s : Sol) (hwf : (Lit.int .i64 s.st).wf = true) : ∃ b e, AccW 13 p s b e ∧ AccW 14 p s b e := by
  by_cases h0 : chkP p = 0
  case neg => exact ⟨false, chkP p, fun W vp vs hB hp hs => accepts_bad hp hs hB h0, fun W vp vs hB hp hs => zdf (b := false) hp hs (fun h => absurd h h0) (fun _ => rfl)⟩
  obtain ⟨q, hpq, hg⟩ := chkP_ok h0
  by_cases h1 : s.st = 1
  · obtain ⟨b, h⟩ := acc_1 hpq hg h0 h1
    exact ⟨b, 0, h⟩
  by_cases h2 : s.st = 2
  · obtain ⟨b, h⟩ := acc_2 hpq hg h0 h2
    exact ⟨b, 0, h⟩
  by_cases h3 : s.st = 3
  · obtain ⟨b, h⟩ := acc_3 hpq hg h0 h3
    exact ⟨b, 0, h⟩
  have n40 : p.C.length ≤ 40 := by rw [hpq]; show (rawV q.C).length ≤ 40; rw [zay]; exact hg.nC
  have m40 : p.B.length ≤ 40 := by rw [hpq]; show (rawV q.B).length ≤ 40; rw [zay]; exact hg.nB
  refine ⟨false, 0, fun W vp vs hB hp hs => accepts_none hp hs hB h0 ⟨h1, h2, h3⟩ hwf, fun W vp vs hB hp hs => ?_⟩
  have h := zdf (b := false) hp hs (fun _ W' hW' => ?_) (fun _ => rfl)
  · rw [h0] at h
    exact h
  · by_cases hv0 : chkQ s.val = 0
    · exact raccepts_none (IsP.stb.to hp (zag hW')) (zcq hs hW') hv0 n40 m40 ⟨h1, h2, h3⟩
    · exact zfk (IsP.stb.to hp (zag hW')) (zcq hs hW') hv0
def slotV (T : Array Value) (o : Oper) : Value := match o.dst with | some d => T.getD d undef | none => undef
def growsR (ops : Array Oper) (n : Nat) : Bool :=
  (List.range ops.size).all fun i => (ops[i]?).any fun o =>
    (o.dst.all fun d => decide (d < n) && (List.range ops.size).all fun j => decide (j = i) || !((ops[j]?).any fun oj => oj.dst == some d)) && (zcp o).all fun j => decide (j < i)
section
variable {ops : Array Oper}
theorem growsR_at {n i : Nat} {o : Oper} (h : growsR ops n = true) (hi : ops[i]? = some o) :
    (∀ d, o.dst = some d → d < n ∧ ∀ j oj, ops[j]? = some oj → oj.dst = some d → j = i) ∧ ∀ j ∈ zcp o, j < i := by
  unfold growsR at h
  have hlt : i < ops.size := (Array.getElem?_eq_some_iff.1 hi).1
  have h1 := List.all_eq_true.1 h i (List.mem_range.2 hlt)
  rw [hi] at h1
  simp only [Option.any_some, Bool.and_eq_true] at h1
  obtain ⟨h2, h3⟩ := h1
  refine ⟨fun d hd => ?_, fun j hj => by simpa using List.all_eq_true.1 h3 j hj⟩
  rw [hd] at h2
  simp only [Option.all_some, Bool.and_eq_true, decide_eq_true_eq] at h2
  refine ⟨h2.1, fun j oj hj hoj => ?_⟩
  have hjl : j < ops.size := (Array.getElem?_eq_some_iff.1 hj).1
  have h4 := List.all_eq_true.1 h2.2 j (List.mem_range.2 hjl)
  rw [hj] at h4
  simp only [Option.any_some, hoj, beq_self_eq_true, Bool.not_true, Bool.or_false, decide_eq_true_eq] at h4
  exact h4
end
section
variable {P : Program} {ops : Array Oper} {Q : Exit → Act → World → Prop} {Φ : Nat → Value → World → Option Value → Prop} {U : World → Value → World → Prop} {k : Nat} {Pre : Nat → World → Prop} {J : World → Option Value → Prop} {E : Nat → World → World → Option Value → Prop} {a0 : Act} {w0 : World}
def xOf (ops : Array Oper) (k : Nat) (listed : Array Bool) (T : Array Value) : Option Value := if listed[k]? = some true then (ops[k]?).map (slotV T) else none
structure GrowInvX (ops : Array Oper) (k : Nat) (Φ : Nat → Value → World → Option Value → Prop) (Pre : Nat → World → Prop) (J : World → Option Value → Prop) (a0 : Act) (listed : Array Bool) (a : Act) (w : World) : Prop where
  size : a.tmps.size = a0.tmps.size
  defers : a.defers = a0.defers
  inv : J w (xOf ops k listed a.tmps)
  pre : ∀ i, listed[i]? = some false → Pre i w
  free : ∀ t, zfo ops t = false → a.tmps[t]? = a0.tmps[t]?
  holds : ∀ j oj, ops[j]? = some oj → listed[j]? = some true → Φ j (slotV a.tmps oj) w (xOf ops k listed a.tmps)
theorem wpAny_rx (hPs : ∀ i m w w' x, i ≠ m → Pre i w → J w x → E m w w' x → Pre i w') (hst : ∀ i m v w w' x, i ≠ m → m ≠ k → Φ i v w x → J w x → E m w w' x → Φ i v w' x) (hsk : ∀ i v w w' u, i ≠ k → Φ i v w none → J w none → E k w w' none → U w u w' → Φ i v w' (some u)) (hg : growsR ops a0.tmps.size = true)
    (hstep : ∀ i o x, ops[i]? = some o → (i = k → x = none) → ∀ (a : Act) (w : World), a.tmps.size = a0.tmps.size → a.defers = a0.defers → J w x → Pre i w → (∀ t, zfo ops t = false → a.tmps[t]? = a0.tmps[t]?) →
      (∀ j oj, j ∈ zcp o → ops[j]? = some oj → Φ j (slotV a.tmps oj) w x) →
      if Region.wanted o (yielded ops a.tmps) = true then o.wp P a w (fun a' w' => ∃ v, a' = a.put o.dst v ∧ E i w w' x ∧ J w' (if i = k then some (if o.dst.isSome then v else undef) else x) ∧ Φ i (if o.dst.isSome then v else undef) w' (if i = k then some (if o.dst.isSome then v else undef) else x) ∧ (i = k → U w (if o.dst.isSome then v else undef) w')) Q else i ≠ k ∧ Φ i undef w x ∧ E i w w x)
    (hend : ∀ (a : Act) (w : World), a.tmps.size = a0.tmps.size → a.defers = a0.defers → J w ((ops[k]?).map (slotV a.tmps)) → (∀ t, zfo ops t = false → a.tmps[t]? = a0.tmps[t]?) →
      (∀ j oj, ops[j]? = some oj → Φ j (slotV a.tmps oj) w ((ops[k]?).map (slotV a.tmps))) → Q .normal a w) :
    ∀ (fuel : Nat) (listed : Array Bool) (a : Act) (w : World), listed.size = ops.size → cntU listed.toList ≤ fuel → GrowInvX ops k Φ Pre J a0 listed a w → wpAny P .any ops Q fuel listed a w := by
  have done : ∀ (listed : Array Bool) (a : Act) (w : World), listed.size = ops.size → Region.ready .any ops listed = [] → GrowInvX ops k Φ Pre J a0 listed a w → Q .normal a w := by
    intro listed a w hsz hr inv
    have all : ∀ n i, i < n → i < ops.size → listed[i]? = some true := by
      intro n
      induction n with
      | zero => intro i hi; omega
      | succ n ih =>
        intro i hi hlt
        rcases Nat.lt_or_ge i n with h | h
        · exact ih i h hlt
        · obtain rfl : i = n := by omega
          have hl : i < listed.size := by omega
          cases hb : listed[i] with
          | true => rw [Array.getElem?_eq_getElem hl, hb]
          | false =>
            exfalso
            have hm : i ∈ Region.ready .any ops listed := by
              unfold Region.ready
              refine List.mem_filter.2 ⟨List.mem_range.2 hlt, ?_⟩
              have hi : ops[i]? = some ops[i] := Array.getElem?_eq_getElem hlt
              obtain ⟨_, hn⟩ := growsR_at hg hi
              rw [hi]
              simp only [Option.map_some, Option.getD_some, Bool.and_eq_true, Bool.not_eq_true']
              refine ⟨by simp [Array.getD_eq_getD_getElem?, Array.getElem?_eq_getElem hl, hb], Array.all_eq_true'.2 fun e he => ?_⟩
              cases hbd : Region.binds .any e with
              | false => rfl
              | true =>
                have hj := hn e.on (List.mem_map.2 ⟨e, List.mem_filter.2 ⟨by simpa using he, hbd⟩, rfl⟩)
                have := ih e.on hj (by omega)
                simp [Array.getD_eq_getD_getElem?, this]
            rw [hr] at hm
            cases hm
    have h2 : xOf ops k listed a.tmps = (ops[k]?).map (slotV a.tmps) := by
      unfold xOf
      cases hk : ops[k]? with
      | none => split <;> rfl
      | some ok => rw [if_pos (all (k + 1) k (by omega) (Array.getElem?_eq_some_iff.1 hk).1)]
    have h3 := inv.inv
    rw [h2] at h3
    refine hend a w inv.size inv.defers h3 inv.free fun j oj hj => ?_
    have h1 := inv.holds j oj hj (all (j + 1) j (by omega) (Array.getElem?_eq_some_iff.1 hj).1)
    rw [h2] at h1
    exact h1
  intro fuel
  induction fuel with
  | zero =>
    intro listed a w hsz hc inv
    have hr : Region.ready .any ops listed = [] := by
      cases hr : Region.ready .any ops listed with
      | nil => rfl
      | cons i l =>
        exfalso
        have hm : i ∈ Region.ready .any ops listed := by rw [hr]; simp
        have hlt : i < ops.size := by
          unfold Region.ready at hm
          exact List.mem_range.1 (List.mem_filter.1 hm).1
        have h1 := (zdq (Array.getElem?_eq_getElem hlt) hm).1
        have hl : i < listed.size := by omega
        have h2 := cntU_zero (l := listed.toList) (i := i) (b := listed[i]) (by omega) (by simp [hl])
        simp [Array.getD_eq_getD_getElem?, Array.getElem?_eq_getElem hl, h2] at h1
    exact ⟨hr, done listed a w hsz hr inv⟩
  | succ fuel ih =>
    intro listed a w hsz hc inv
    refine ⟨fun hr => done listed a w hsz hr inv, fun i hm => ?_⟩
    have hlt : i < ops.size := by
      unfold Region.ready at hm
      exact List.mem_range.1 (List.mem_filter.1 hm).1
    have hi : ops[i]? = some ops[i] := Array.getElem?_eq_getElem hlt
    obtain ⟨h1, h2⟩ := zdq hi hm
    have hl : i < listed.size := by omega
    have hb : listed[i] = false := by simpa [Array.getD_eq_getD_getElem?, Array.getElem?_eq_getElem hl] using h1
    obtain ⟨hdu, _⟩ := growsR_at hg hi
    have hs := hstep i ops[i] (xOf ops k listed a.tmps) hi (fun e => by unfold xOf; rw [← e, Array.getElem?_eq_getElem hl, hb]; simp) a w inv.size inv.defers inv.inv (inv.pre i (by rw [Array.getElem?_eq_getElem hl, hb])) inv.free fun j oj hj hoj => inv.holds j oj hoj (by
      have h3 := h2 j hj
      have hjl : j < listed.size := by
        have := (Array.getElem?_eq_some_iff.1 hoj).1
        omega
      rw [Array.getElem?_eq_getElem hjl]
      simp only [Array.getD_eq_getD_getElem?, Array.getElem?_eq_getElem hjl, Option.getD_some] at h3
      rw [h3])
    have next : ∀ (v : Value) (w' : World), E i w w' (xOf ops k listed a.tmps) → J w' (if i = k then some (if ops[i].dst.isSome then v else undef) else xOf ops k listed a.tmps) → Φ i (if ops[i].dst.isSome then v else undef) w' (if i = k then some (if ops[i].dst.isSome then v else undef) else xOf ops k listed a.tmps) → (i = k → U w (if ops[i].dst.isSome then v else undef) w') → wpAny P .any ops Q fuel (listed.setIfInBounds i true) (a.put ops[i].dst v) w' := by
      intro v w' hgr hJ hv hU
      have hput : ∀ t, (∀ d, ops[i].dst = some d → t ≠ d) → (a.put ops[i].dst v).tmps[t]? = a.tmps[t]? := by
        intro t ht
        cases hd : ops[i].dst with
        | none => rfl
        | some d => exact put_other _ _ (ht d hd)
      have hself : slotV (a.put ops[i].dst v).tmps ops[i] = (if ops[i].dst.isSome then v else undef) := by
        unfold slotV
        cases hd : ops[i].dst with
        | none => rfl
        | some d =>
          simp only
          exact put_same _ _ (by rw [inv.size]; exact (hdu d hd).1)
      have hother : ∀ j oj, ops[j]? = some oj → j ≠ i → slotV (a.put ops[i].dst v).tmps oj = slotV a.tmps oj := by
        intro j oj hj hji
        unfold slotV
        cases hdj : oj.dst with
        | none => rfl
        | some dj => exact getD_of (hput dj fun d hd e => hji ((hdu d hd).2 j oj hj (by rw [hdj, e])))
      have hx : xOf ops k (listed.setIfInBounds i true) (a.put ops[i].dst v).tmps = (if i = k then some (if ops[i].dst.isSome then v else undef) else xOf ops k listed a.tmps) := by
        by_cases hik : i = k
        · subst hik
          unfold xOf
          rw [if_pos rfl, Array.getElem?_setIfInBounds_self_of_lt hl, if_pos rfl, hi]
          simp only [Option.map_some, hself]
        · rw [if_neg hik]
          unfold xOf
          rw [Array.getElem?_setIfInBounds_ne hik]
          cases hk : ops[k]? with
          | none => rfl
          | some ok => simp only [Option.map_some, hother k ok hk (Ne.symm hik)]
      refine ih _ _ _ (by simp [hsz]) ?_ ⟨?_, ?_, by rw [hx]; exact hJ, fun m hk => ?_, fun t ht => ?_, fun j oj hj hlj => ?_⟩
      · have := cntU_set (l := listed.toList) (i := i) (by simp [hl, hb])
        simp only [Array.toList_setIfInBounds]
        omega
      · cases hd : ops[i].dst with
        | none => exact inv.size
        | some d => rw [put_size]; exact inv.size
      · cases hd : ops[i].dst with
        | none => exact inv.defers
        | some d => exact inv.defers
      · have hki : m ≠ i := by
          rintro rfl
          rw [Array.getElem?_setIfInBounds_self_of_lt hl] at hk
          cases hk
        rw [Array.getElem?_setIfInBounds_ne (Ne.symm hki)] at hk
        exact hPs m i w w' _ hki (inv.pre m hk) inv.inv hgr
      · rw [hput t (by
          rintro d hd rfl
          unfold zfo at ht
          rw [List.any_eq_false] at ht
          exact ht ops[i] (by simp) (by rw [hd]; simp))]
        exact inv.free t ht
      · rw [hx]
        by_cases hji : j = i
        · subst hji
          rw [hi] at hj
          cases hj
          rw [hself]
          exact hv
        · rw [hother j oj hj hji]
          rw [Array.getElem?_setIfInBounds_ne (Ne.symm hji)] at hlj
          by_cases hik : i = k
          · subst hik
            rw [if_pos rfl]
            have h0 := inv.holds j oj hj hlj
            have hx0 : xOf ops i listed a.tmps = none := by unfold xOf; rw [Array.getElem?_eq_getElem hl, hb]; simp
            rw [hx0] at h0
            have h3 := inv.inv
            rw [hx0] at hgr h3
            exact hsk j _ _ _ _ hji h0 h3 hgr (hU rfl)
          · rw [if_neg hik]
            exact hst j i _ _ _ _ hji hik (inv.holds j oj hj hlj) inv.inv hgr
    unfold wpOp
    rw [hi]
    simp only
    split
    · rename_i hw
      rw [if_pos hw] at hs
      exact .inl (Oper.wp_mono (fun a' w' ⟨v, ha, hbw, hJ, hv, hU⟩ => by rw [ha]; exact next v w' hbw hJ hv hU) hs)
    · rename_i hw
      rw [if_neg hw] at hs
      exact next undef w hs.2.2 (by rw [if_neg hs.1]; exact inv.inv) (by rw [if_neg hs.1]; have := hs.2.1; split <;> exact this) (fun e => absurd e hs.1)
theorem wp_region_rx {id : Nat} (k : Nat) (U : World → Value → World → Prop) (Φ : Nat → Value → World → Option Value → Prop) (Pre : Nat → World → Prop) (J : World → Option Value → Prop) (E : Nat → World → World → Option Value → Prop) (hm : P.follows .mixedOrders = true) (hJ0 : J w0.drew none) (hP0 : ∀ i, Pre i w0.drew)
    (hPs : ∀ i m w w' x, i ≠ m → Pre i w → J w x → E m w w' x → Pre i w') (hst : ∀ i m v w w' x, i ≠ m → m ≠ k → Φ i v w x → J w x → E m w w' x → Φ i v w' x) (hsk : ∀ i v w w' u, i ≠ k → Φ i v w none → J w none → E k w w' none → U w u w' → Φ i v w' (some u)) (hg : growsR ops a0.tmps.size = true)
    (hstep : ∀ i o x, ops[i]? = some o → (i = k → x = none) → ∀ (a : Act) (w : World), a.tmps.size = a0.tmps.size → a.defers = a0.defers → J w x → Pre i w → (∀ t, zfo ops t = false → a.tmps[t]? = a0.tmps[t]?) →
      (∀ j oj, j ∈ zcp o → ops[j]? = some oj → Φ j (slotV a.tmps oj) w x) →
      if Region.wanted o (yielded ops a.tmps) = true then o.wp P a w (fun a' w' => ∃ v, a' = a.put o.dst v ∧ E i w w' x ∧ J w' (if i = k then some (if o.dst.isSome then v else undef) else x) ∧ Φ i (if o.dst.isSome then v else undef) w' (if i = k then some (if o.dst.isSome then v else undef) else x) ∧ (i = k → U w (if o.dst.isSome then v else undef) w')) Q else i ≠ k ∧ Φ i undef w x ∧ E i w w x)
    (hend : ∀ (a : Act) (w : World), a.tmps.size = a0.tmps.size → a.defers = a0.defers → J w ((ops[k]?).map (slotV a.tmps)) → (∀ t, zfo ops t = false → a.tmps[t]? = a0.tmps[t]?) →
      (∀ j oj, ops[j]? = some oj → Φ j (slotV a.tmps oj) w ((ops[k]?).map (slotV a.tmps))) → Q .normal a w) :
    (Code.region id ops true).wp P Q a0 w0 := by
  refine wp_region_any hm (wpAny_rx hPs hst hsk hg hstep hend _ _ _ _ (by simp) (by simp [zfr]) ⟨rfl, rfl, ?_, fun i _ => hP0 i, fun _ _ => rfl, fun j oj hj hlj => ?_⟩)
  · have h : xOf ops k (Array.replicate ops.size false) a0.tmps = none := by
      unfold xOf
      rw [if_neg]
      rw [Array.getElem?_replicate]
      split <;> simp
    rw [h]
    exact hJ0
  · rw [Array.getElem?_replicate] at hlj
    split at hlj <;> cases hlj
end
theorem step_rx {P : Program} {o : Oper} {a : Act} {w : World} {J : Value → World → Prop} {E : World → Prop} {Φ : Value → World → Prop} {Q : Exit → Act → World → Prop} {U : Value → World → Prop}
    (h : ∀ K : Act → World → Prop, (∀ v w', E w' → J (if o.dst.isSome then v else undef) w' → Φ (if o.dst.isSome then v else undef) w' → U (if o.dst.isSome then v else undef) w' → K (a.put o.dst v) w') → o.wp P a w K Q) :
    o.wp P a w (fun a' w' => ∃ v, a' = a.put o.dst v ∧ E w' ∧ J (if o.dst.isSome then v else undef) w' ∧ Φ (if o.dst.isSome then v else undef) w' ∧ U (if o.dst.isSome then v else undef) w') Q :=
  h _ fun v w' hb hJ hv hU => ⟨v, rfl, hb, hJ, hv, hU⟩
abbrev ptrV (g : Nat) : Value := .pointer (some ⟨g, 0, none⟩)
def NX (n0 : Nat) (w : World) (x : Option Value) (b : Nat) : Prop := n0 ≤ b ∧ b < w.heap.size ∧ ∀ g, x = some (ptrV g) → b ≠ g
def boxE (n m : Nat) (w w' : World) (x : Option Value) : Prop := if m = n then ∃ g a b c, x = some (ptrV g) ∧ w' = put3 w g a b c else Below w.heap.size w w'
def boxJ (n0 : Nat) (w0 w : World) (x : Option Value) : Prop := Below n0 w0 w ∧ n0 ≤ w.heap.size ∧ ∀ g, x = some (ptrV g) → n0 ≤ g ∧ g < w.heap.size
def boxU (w : World) (u : Value) (w' : World) : Prop := u = ptrV w.heap.size
def boxR (t : TypeId) (v : Value) (w : World) (x : Option Value) : Prop := ∃ g a b c, v = ptrV g ∧ x = some v ∧ Row w g t [a, b, c]
section
variable {α : Type} {R : World → (Nat → Prop) → Value → α → Prop} (hR : Stb R) {n0 : Nat} {w w' : World} {x : Option Value} {v : Value} {y : α}
include hR
theorem nx_below (h : R w (NX n0 w x) v y) (hb : Below w.heap.size w w') : R w' (NX n0 w' x) v y := hR.to h fun b hbb => ⟨⟨hbb.1, Nat.lt_of_lt_of_le hbb.2.1 hb.size, hbb.2.2⟩, fun o => hb.cell (p := ⟨b, o, none⟩) hbb.2.1⟩
theorem nx_new (h : R w (NX n0 w none) v y) (hb : Below w.heap.size w w') : R w' (NX n0 w' (some (ptrV w.heap.size))) v y := hR.to h fun b hbb => ⟨⟨hbb.1, Nat.lt_of_lt_of_le hbb.2.1 hb.size, fun g e hg => by cases e; have := hbb.2.1; omega⟩, fun o => hb.cell (p := ⟨b, o, none⟩) hbb.2.1⟩
theorem nx_put {g : Nat} {a b c : Value} (h : R w (NX n0 w (some (ptrV g))) v y) : R (put3 w g a b c) (NX n0 (put3 w g a b c) (some (ptrV g))) v y := hR.to h (zbw fun z hz => ⟨hz.2.2 g rfl, hz.1, by rw [zcb]; exact hz.2.1, hz.2.2⟩)
theorem nx_of (h : R w' (New w.heap.size w') v y) (hn : n0 ≤ w.heap.size) (hx : ∀ g, x = some (ptrV g) → n0 ≤ g ∧ g < w.heap.size) : R w' (NX n0 w' x) v y := hR.to h (zat fun b hb => ⟨Nat.le_trans hn hb.1, hb.2, fun g e hg => by have := (hx g e).2; have := hb.1; omega⟩)
end
section
variable {P : Program} {o : Oper} {a : Act} {w w0 : World} {Φ : Nat → Value → World → Option Value → Prop} {Q : Exit → Act → World → Prop} {n0 i k n : Nat} {x : Option Value}
theorem zej (hik : i ≠ k) (hin : i ≠ n) (hd : o.dst.isSome = true) (hJ : boxJ n0 w0 w x) (h : ∀ K : Act → World → Prop, (∀ v w', Below w.heap.size w w' → Φ i v w' x → K (a.put o.dst v) w') → o.wp P a w K Q) :
    o.wp P a w (fun a' w' => ∃ v, a' = a.put o.dst v ∧ boxE n i w w' x ∧ boxJ n0 w0 w' (if i = k then some (if o.dst.isSome then v else undef) else x) ∧ Φ i (if o.dst.isSome then v else undef) w' (if i = k then some (if o.dst.isSome then v else undef) else x) ∧ (i = k → boxU w (if o.dst.isSome then v else undef) w')) Q := by
  refine h _ fun v w' hb hv => ⟨v, rfl, ?_, ?_, ?_, fun e => absurd e hik⟩
  · unfold boxE; rw [if_neg hin]; exact hb
  · rw [if_neg hik]; exact ⟨hJ.1.trans (hb.mono hJ.2.1), Nat.le_trans hJ.2.1 hb.size, fun g e => ⟨(hJ.2.2 g e).1, Nat.lt_of_lt_of_le (hJ.2.2 g e).2 hb.size⟩⟩
  · rw [if_neg hik, if_pos hd]; exact hv
theorem step_box_make {ob : Obj} (hin : k ≠ n) (hd : o.dst.isSome = true) (hJ : boxJ n0 w0 w x) (hx : x = none) (hΦ : Φ k (ptrV w.heap.size) (w.alloc ob) (some (ptrV w.heap.size)))
    (h : ∀ K : Act → World → Prop, K (a.put o.dst (ptrV w.heap.size)) (w.alloc ob) → o.wp P a w K Q) :
    o.wp P a w (fun a' w' => ∃ v, a' = a.put o.dst v ∧ boxE n k w w' x ∧ boxJ n0 w0 w' (if k = k then some (if o.dst.isSome then v else undef) else x) ∧ Φ k (if o.dst.isSome then v else undef) w' (if k = k then some (if o.dst.isSome then v else undef) else x) ∧ (k = k → boxU w (if o.dst.isSome then v else undef) w')) Q := by
  have hb := zas w ob
  refine h _ ⟨ptrV w.heap.size, rfl, ?_, ?_, ?_, fun e => ?_⟩
  · unfold boxE; rw [if_neg hin]; exact hb
  · rw [if_pos rfl, if_pos hd]; exact ⟨hJ.1.trans (hb.mono hJ.2.1), Nat.le_trans hJ.2.1 hb.size, fun g e => by cases e; exact ⟨hJ.2.1, by rw [World.size_alloc]; omega⟩⟩
  · rw [if_pos rfl, if_pos hd]; exact hΦ
  · rw [if_pos hd]; rfl
theorem step_box_store (hkn : n ≠ k) (hd : o.dst.isSome = false) (hJ : boxJ n0 w0 w x) {g : Nat} {c1 c2 c3 : Value} (hx : x = some (ptrV g)) (hΦ : Φ n undef (put3 w g c1 c2 c3) x)
    (h : ∀ K : Act → World → Prop, K (a.put o.dst undef) (put3 w g c1 c2 c3) → o.wp P a w K Q) :
    o.wp P a w (fun a' w' => ∃ v, a' = a.put o.dst v ∧ boxE n n w w' x ∧ boxJ n0 w0 w' (if n = k then some (if o.dst.isSome then v else undef) else x) ∧ Φ n (if o.dst.isSome then v else undef) w' (if n = k then some (if o.dst.isSome then v else undef) else x) ∧ (n = k → boxU w (if o.dst.isSome then v else undef) w')) Q := by
  refine h _ ⟨undef, rfl, ?_, ?_, ?_, fun e => absurd e hkn⟩
  · unfold boxE; rw [if_pos rfl]; exact ⟨g, c1, c2, c3, hx, rfl⟩
  · rw [if_neg hkn]
    refine ⟨zbn hJ.1 (hJ.2.2 g hx).1 _ _ _, by rw [zcb]; exact hJ.2.1, fun g' e => ?_⟩
    rw [zcb]; exact hJ.2.2 g' e
  · rw [if_neg hkn, if_neg (by rw [hd]; simp)]; exact hΦ
theorem boxR_below {t : TypeId} {v : Value} {w' : World} (h : boxR t v w x) (hb : Below w.heap.size w w') : boxR t v w' x := by
  obtain ⟨g, a, b, c, e1, e2, r⟩ := h
  exact ⟨g, a, b, c, e1, e2, r.next hb⟩
theorem boxR_put {t : TypeId} {v : Value} {g : Nat} {a b c : Value} (h : boxR t v w (some (ptrV g))) : boxR t v (put3 w g a b c) (some (ptrV g)) := by
  obtain ⟨g', a', b', c', rfl, e2, r⟩ := h
  cases e2
  exact ⟨g, a, b, c, rfl, rfl, r.put3 a b c⟩
end
end Go.Proofs.YtblpaocignlpkaaGreatDoor
