/-
  The zbe of package dual's Accepts.
-/
import Derived.Test.YtblpaocignlpkaaGreatDoorCore15
import Derived.Test.YtblpaocignlpkaaGreatDoorCore03
import Derived.Maps.OwnSet
import Derived.OrdersHeld
import Derived.Below
import Derived.Test.YtblpaocignlpkaaGreatDoorCore12
import Derived.Test.YtblpaocignlpkaaGreatDoorCore13
import Derived.Test.YtblpaocignlpkaaGreatDoorCore14
namespace Go.Proofs.YtblpaocignlpkaaGreatDoor
open Go.RowKit Go.Maps
set_option linter.unusedVariables false
def zdc (v : Value) : Option (DataW Value × List MemPlace) := some (.held v, [])
theorem zbh {H : Type} {P : Program} (w : World) {ops : Array Oper} {rest : List Oper} {o : Oper} {a : Act} {Q : Exit → Act → World → Prop}
    (hg : o.guard = none) (m x v : Operand) (t : TypeId) (hop : o.op = Op.insert t m x v)
    (k e : TypeId) (K : Keyed P k) (ht : P.underlying t = some (.map k e)) (R : Value → Option (DataW H × List MemPlace)) (b n : Nat) (D : DataW H)
    (hm : a.eval m = .map (some b)) (hown : w.ownsMap P k R b n D) (hn : n < maxLen) (key val : Value) (kl : Lit) (hx : a.eval x = key) (hv : a.eval v = val) (hkey : keyOf P k key = some kl)
    (d : DataW H) (ps : List MemPlace) (hval : R val = some (d, ps))
    (hK : ∀ w', w'.ownsMap P k R b (n + 1) (D.put kl d) → w.grownBy w' (some b) → wpList P ops Q rest (a.put o.dst undef) w') :
    wpList P ops Q (o :: rest) a w := by
  refine wpList_plain hg fun K' hK' => ?_
  obtain ⟨w', hrun, r1, r2⟩ := hown.update K ht hn hkey hval
  unfold Oper.wp
  simp [execOp, hop, hm, hx, hv, hrun, Result.andThen]
  exact hK' _ _ (hK w' r1 r2)
theorem Row.grownB {w w' : World} {g b : Nat} {t : TypeId} {xs : List Value} (h : Row w g t xs) (hg : w.grownBy w' (some b)) (hne : g ≠ b) : Row w' g t xs := (hg.block g h.lt (fun e => hne (by cases e; rfl))).trans h
theorem zdh {P : Program} (w : World) {ops : Array Oper} {rest : List Oper} {o : Oper} {a : Act} {Q : Exit → Act → World → Prop} (hg : o.guard = none) (m x : Operand) (t : TypeId) (hop : o.op = Op.lookup t m x true)
    (k e : TypeId) (K : Keyed P k) (ht : P.underlying t = some (.map k e)) (hz : (zeroValue e).run P w = .ok .nilIface w) (b n : Nat) (D : DataW Value) (hm : a.eval m = .map (some b)) (hown : w.ownsMap P k zdc b n D) (key : Value) (kl : Lit) (hx : a.eval x = key) (hkey : keyOf P k key = some kl)
    (v : Value) (c : Bool) (h1 : D.atKey kl (.held .nilIface) = .held v) (h2 : Maps.has D kl = c) (hK : wpList P ops Q rest (a.put o.dst (.tuple #[v, .bool c])) w) : wpList P ops Q (o :: rest) a w :=
  wpList_lookup_own_ok w hg m x t hop k e K ht zdc hz (.held .nilIface) [] rfl b n D hm hown key kl hx hkey (fun v' ps hv => by
    have e1 : DataW.held v' = D.atKey kl (.held .nilIface) := congrArg Prod.fst (Option.some.inj hv)
    rw [h1] at e1
    cases e1
    rw [h2]
    exact hK)
theorem zet : Keyed Tryz.prog 3 := int_keyed Tryz.underlying3
theorem keyAt {x : Int} (h : (Lit.int .i64 x).wf = true) : keyOf Tryz.prog 3 (.int .i64 x) = some (.int .i64 x) := keyOf_int_mk Tryz.underlying3 h
theorem zeroCert (w : World) : (zeroValue 91).run Tryz.prog w = .ok .nilIface w := by kernel_rfl
theorem zba {w : World} {g : Nat} {t : TypeId} {a b c d e f h : Value} (r : Row w g t [a, b, c, d, e, f, h]) : w.cell? ⟨g, 0, none⟩ = some a ∧ w.cell? ⟨g, 1, none⟩ = some b ∧ w.cell? ⟨g, 2, none⟩ = some c ∧ w.cell? ⟨g, 3, none⟩ = some d ∧ w.cell? ⟨g, 4, none⟩ = some e ∧ w.cell? ⟨g, 5, none⟩ = some f ∧ w.cell? ⟨g, 6, none⟩ = some h :=
  ⟨r.cell 0, r.cell 1, r.cell 2, r.cell 3, r.cell 4, r.cell 5, r.cell 6⟩
set_option maxRecDepth 100000 in
set_option maxHeartbeats 2000000 in
theorem accepts_bad {w : World} {vp vs : Value} {p : Prog} {s : Sol} (hp : IsP w (Old w) vp p) (hs : IsSol w (Old w) vs s) (hB : Bru w) (h0 : chkP p ≠ 0) :
    Calls Tryz.prog 13 #[vp, vs] w fun e w' => e = .returned (.tuple #[.bool false, .int .i64 (chkP p)]) ∧ Below w.heap.size w w' := by
  have HP := Lib.hid hp
  have HB := Lib.hid hB
  obtain ⟨A, cA, B, cB, C, cC, rfl, _, _, _⟩ := hp
  obtain ⟨P, cP, Q, cQ, X, cX, D, cD, R, cR, rfl, _⟩ := hs
  obtain ⟨e0, he0⟩ : ∃ x, x = chkP p := ⟨_, rfl⟩
  have He0 := Lib.hid he0
  rw [← he0] at h0 ⊢
  clear he0 hB
  obtain ⟨w0, hw0, hb0, rP, rS, Hz⟩ := zcl w #[.slice A p.A.length cA, .slice B p.B.length cB, .slice C p.C.length cC] #[.int .i64 s.st, .bool s.val.neg, .slice P s.val.num.length cP, .slice Q s.val.den.length cQ, .slice X s.X.length cX, .slice D s.D.length cD, .slice R s.R.length cR] 27 33
  have HB0 := Lib.hid hb0
  have RP := Lib.hid rP
  have RS := Lib.hid rS
  obtain ⟨p0, p1, p2⟩ := zad rP
  obtain ⟨s0, s1, s2, s3, s4, s5, s6⟩ := zba rS
  clear hb0 rP rS
  have b0 : (e0 != 0) = true := bne_iff_ne.2 h0
  clear h0
  go_enter Tryz.func13, Tryz.ntmps13
  go_wp2_with fail
  clear hw0
  refine (zdv HP.out HB.out HB0.out).mono ?_
  rw [← He0.out]
  rintro e w1 ⟨rfl, hb⟩
  go_wp2_with fail
  go_ret2
  exact ⟨rfl, zaa HB0.out hb⟩
set_option maxRecDepth 100000 in
set_option maxHeartbeats 4000000 in
theorem accepts_1 {w : World} {vp vs : Value} {p : Prog} {s : Sol} {b : Bool} (hp : IsP w (Old w) vp p) (hs : IsSol w (Old w) vs s) (hB : Bru w) (h0 : chkP p = 0) (hst : s.st = 1)
    (hD : ∀ v, IsPS w (Old w) v p s → ∀ W, Below w.heap.size w W → Calls Tryz.prog 197 #[v] W fun e w' => e = .returned (.bool b) ∧ Below W.heap.size W w') :
    Calls Tryz.prog 13 #[vp, vs] w fun e w' => e = .returned (.tuple #[.bool b, .int .i64 0]) ∧ Below w.heap.size w w' := by
  have hps : ∃ A cA B cB C cC P cP Q cQ X cX D cD R cR, vp = .agg #[.slice A p.A.length cA, .slice B p.B.length cB, .slice C p.C.length cC] ∧ vs = .agg #[.int .i64 s.st, .bool s.val.neg, .slice P s.val.num.length cP, .slice Q s.val.den.length cQ, .slice X s.X.length cX, .slice D s.D.length cD, .slice R s.R.length cR] ∧ IsPS w (Old w) (.agg #[.slice A p.A.length cA, .slice B p.B.length cB, .slice C p.C.length cC, .int .i64 s.st, .bool s.val.neg, .slice P s.val.num.length cP, .slice Q s.val.den.length cQ, .slice X s.X.length cX, .slice D s.D.length cD, .slice R s.R.length cR]) p s := by
    obtain ⟨A, cA, B, cB, C, cC, rfl, h1, h2, h3⟩ := hp
    obtain ⟨P, cP, Q, cQ, X, cX, D, cD, R, cR, rfl, h4, h5, h6, h7⟩ := hs
    exact ⟨A, cA, B, cB, C, cC, P, cP, Q, cQ, X, cX, D, cD, R, cR, rfl, rfl, A, cA, B, cB, C, cC, P, cP, Q, cQ, X, cX, D, cD, R, cR, rfl, h1, h2, h3, h4, h5, h6, h7⟩
  have HP := Lib.hid hp
  have HB := Lib.hid hB
  clear hp hs hB
  obtain ⟨A, cA, B, cB, C, cC, P, cP, Q, cQ, X, cX, D, cD, R, cR, rfl, rfl, hv⟩ := hps
  have He0 := Lib.hid h0
  rw [hst] at hv ⊢
  have HD := Lib.hid (hD _ hv)
  clear hD hv h0 hst
  obtain ⟨w0, hw0, hb0, rP, rS, Hz⟩ := zcl w #[.slice A p.A.length cA, .slice B p.B.length cB, .slice C p.C.length cC] #[.int .i64 1, .bool s.val.neg, .slice P s.val.num.length cP, .slice Q s.val.den.length cQ, .slice X s.X.length cX, .slice D s.D.length cD, .slice R s.R.length cR] 27 33
  have HB0 := Lib.hid hb0
  have RP := Lib.hid rP
  have RS := Lib.hid rS
  obtain ⟨p0, p1, p2⟩ := zad rP
  obtain ⟨s0, s1, s2, s3, s4, s5, s6⟩ := zba rS
  clear hb0 rP rS
  have hmm := @run_makeMap Tryz.prog
  have hm0 : ∀ w : World, (method 295 86 (.agg #[.slice A p.A.length cA, .slice B p.B.length cB, .slice C p.C.length cC, .int .i64 1, .bool s.val.neg, .slice P s.val.num.length cP, .slice Q s.val.den.length cQ, .slice X s.X.length cX, .slice D s.D.length cD, .slice R s.R.length cR]) "parlour/dual.proves").run Tryz.prog w = .ok (197, .agg #[.slice A p.A.length cA, .slice B p.B.length cB, .slice C p.C.length cC, .int .i64 1, .bool s.val.neg, .slice P s.val.num.length cP, .slice Q s.val.den.length cQ, .slice X s.X.length cX, .slice D s.D.length cD, .slice R s.R.length cR]) w := fun _ => by kernel_rfl
  have hm : ∀ w : World, (method 303 86 (.agg #[.slice A p.A.length cA, .slice B p.B.length cB, .slice C p.C.length cC, .int .i64 1, .bool s.val.neg, .slice P s.val.num.length cP, .slice Q s.val.den.length cQ, .slice X s.X.length cX, .slice D s.D.length cD, .slice R s.R.length cR]) "parlour/dual.proves").run Tryz.prog w = .ok (197, .agg #[.slice A p.A.length cA, .slice B p.B.length cB, .slice C p.C.length cC, .int .i64 1, .bool s.val.neg, .slice P s.val.num.length cP, .slice Q s.val.den.length cQ, .slice X s.X.length cX, .slice D s.D.length cD, .slice R s.R.length cR]) w := fun _ => by kernel_rfl
  go_enter Tryz.func13, Tryz.ntmps13
  go_wp2_with fail
  clear hw0
  refine (zdv HP.out HB.out HB0.out).mono ?_
  rw [He0.out]
  rintro e w1 ⟨rfl, hb⟩
  have hb1 := zaa HB0.out hb
  have HB1 := Lib.hid hb1
  have rP1 := RP.out.next hb
  have rS1 := RS.out.next hb
  have hzs := Hz.out
  have hs1 := hb.size
  have n1 : w.heap.size ≠ w1.heap.size := by omega
  have n2 : w.heap.size + 1 ≠ w1.heap.size := by omega
  have hown0 := World.ownsMap_made w1 Tryz.prog 3 zdc
  have hbA : Below w.heap.size w (w1.alloc (.map #[] 0)) := zae hb1 _
  have hsA : (w1.alloc (.map #[] 0)).heap.size = w1.heap.size + 1 := World.size_alloc _ _
  have rPA := rP1.alloc (.map #[] 0)
  have rSA := rS1.alloc (.map #[] 0)
  obtain ⟨p0, p1, p2⟩ := zad rPA
  obtain ⟨s0, s1, s2, s3, s4, s5, s6⟩ := zba rSA
  clear hb hzs
  go_wp2_with (first
    | (at_lookup; refine zdh _ rfl _ _ 89 rfl 3 91 zet Tryz.underlying89 (zeroCert _) w1.heap.size 3 _ rfl hown3 _ _ rfl (keyAt (x := 1) (by decide)) (.iface 86 (.agg #[.slice A p.A.length cA, .slice B p.B.length cB, .slice C p.C.length cC, .int .i64 1, .bool s.val.neg, .slice P s.val.num.length cP, .slice Q s.val.den.length cQ, .slice X s.X.length cX, .slice D s.D.length cD, .slice R s.R.length cR])) true rfl rfl ?_)
    | (refine zbh _ rfl _ _ _ 89 rfl 3 91 zet Tryz.underlying89 zdc w1.heap.size 2 _ rfl hown2 (by unfold maxLen; omega) (.int .i64 3) (.iface 88 (.agg #[.slice A p.A.length cA, .slice B p.B.length cB, .slice C p.C.length cC, .int .i64 1, .bool s.val.neg, .slice P s.val.num.length cP, .slice Q s.val.den.length cQ, .slice X s.X.length cX, .slice D s.D.length cD, .slice R s.R.length cR])) _ rfl rfl (keyAt (x := 3) (by decide)) _ [] rfl ?_; intro x3 hown3 hg3; have rP_3 := Row.grownB rP_2 hg3 n1; have rS_3 := Row.grownB rS_2 hg3 n2; have hb_3 := Below.grown hb_2 hg3 hb_2.size (fun k hk => by cases hk; exact hb1.size); obtain ⟨p0, p1, p2⟩ := zad rP_3; obtain ⟨s0, s1, s2, s3, s4, s5, s6⟩ := zba rS_3)
    | (refine zbh _ rfl _ _ _ 89 rfl 3 91 zet Tryz.underlying89 zdc w1.heap.size 1 _ rfl hown1 (by unfold maxLen; omega) (.int .i64 2) (.iface 87 (.agg #[.slice A p.A.length cA, .slice B p.B.length cB, .slice C p.C.length cC, .int .i64 1, .bool s.val.neg, .slice P s.val.num.length cP, .slice Q s.val.den.length cQ, .slice X s.X.length cX, .slice D s.D.length cD, .slice R s.R.length cR])) _ rfl rfl (keyAt (x := 2) (by decide)) _ [] rfl ?_; intro x2 hown2 hg2; have rP_2 := Row.grownB rP_1 hg2 n1; have rS_2 := Row.grownB rS_1 hg2 n2; have hb_2 := Below.grown hb_1 hg2 hb_1.size (fun k hk => by cases hk; exact hb1.size); obtain ⟨p0, p1, p2⟩ := zad rP_2; obtain ⟨s0, s1, s2, s3, s4, s5, s6⟩ := zba rS_2)
    | (refine zbh _ rfl _ _ _ 89 rfl 3 91 zet Tryz.underlying89 zdc w1.heap.size 0 _ rfl hown0 (by unfold maxLen; omega) (.int .i64 1) (.iface 86 (.agg #[.slice A p.A.length cA, .slice B p.B.length cB, .slice C p.C.length cC, .int .i64 1, .bool s.val.neg, .slice P s.val.num.length cP, .slice Q s.val.den.length cQ, .slice X s.X.length cX, .slice D s.D.length cD, .slice R s.R.length cR])) _ rfl rfl (keyAt (x := 1) (by decide)) _ [] rfl ?_; intro x1 hown1 hg1; have rP_1 := Row.grownB rPA hg1 n1; have rS_1 := Row.grownB rSA hg1 n2; have hb_1 := Below.grown hbA hg1 hbA.size (fun k hk => by cases hk; exact hb1.size); obtain ⟨p0, p1, p2⟩ := zad rP_1; obtain ⟨s0, s1, s2, s3, s4, s5, s6⟩ := zba rS_1))
  refine (HD.out _ hb_3).mono ?_
  rintro e w5 ⟨rfl, hb⟩
  go_wp2_with fail
  go_ret2
  exact ⟨rfl, zaa hb_3 hb⟩
set_option maxRecDepth 100000 in
set_option maxHeartbeats 4000000 in
theorem accepts_2 {w : World} {vp vs : Value} {p : Prog} {s : Sol} {b : Bool} (hp : IsP w (Old w) vp p) (hs : IsSol w (Old w) vs s) (hB : Bru w) (h0 : chkP p = 0) (hst : s.st = 2)
    (hD : ∀ v, IsPS w (Old w) v p s → ∀ W, Below w.heap.size w W → Calls Tryz.prog 203 #[v] W fun e w' => e = .returned (.bool b) ∧ Below W.heap.size W w') :
    Calls Tryz.prog 13 #[vp, vs] w fun e w' => e = .returned (.tuple #[.bool b, .int .i64 0]) ∧ Below w.heap.size w w' := by
  have hps : ∃ A cA B cB C cC P cP Q cQ X cX D cD R cR, vp = .agg #[.slice A p.A.length cA, .slice B p.B.length cB, .slice C p.C.length cC] ∧ vs = .agg #[.int .i64 s.st, .bool s.val.neg, .slice P s.val.num.length cP, .slice Q s.val.den.length cQ, .slice X s.X.length cX, .slice D s.D.length cD, .slice R s.R.length cR] ∧ IsPS w (Old w) (.agg #[.slice A p.A.length cA, .slice B p.B.length cB, .slice C p.C.length cC, .int .i64 s.st, .bool s.val.neg, .slice P s.val.num.length cP, .slice Q s.val.den.length cQ, .slice X s.X.length cX, .slice D s.D.length cD, .slice R s.R.length cR]) p s := by
    obtain ⟨A, cA, B, cB, C, cC, rfl, h1, h2, h3⟩ := hp
    obtain ⟨P, cP, Q, cQ, X, cX, D, cD, R, cR, rfl, h4, h5, h6, h7⟩ := hs
    exact ⟨A, cA, B, cB, C, cC, P, cP, Q, cQ, X, cX, D, cD, R, cR, rfl, rfl, A, cA, B, cB, C, cC, P, cP, Q, cQ, X, cX, D, cD, R, cR, rfl, h1, h2, h3, h4, h5, h6, h7⟩
  have HP := Lib.hid hp
  have HB := Lib.hid hB
  clear hp hs hB
  obtain ⟨A, cA, B, cB, C, cC, P, cP, Q, cQ, X, cX, D, cD, R, cR, rfl, rfl, hv⟩ := hps
  have He0 := Lib.hid h0
  rw [hst] at hv ⊢
  have HD := Lib.hid (hD _ hv)
  clear hD hv h0 hst
  obtain ⟨w0, hw0, hb0, rP, rS, Hz⟩ := zcl w #[.slice A p.A.length cA, .slice B p.B.length cB, .slice C p.C.length cC] #[.int .i64 2, .bool s.val.neg, .slice P s.val.num.length cP, .slice Q s.val.den.length cQ, .slice X s.X.length cX, .slice D s.D.length cD, .slice R s.R.length cR] 27 33
  have HB0 := Lib.hid hb0
  have RP := Lib.hid rP
  have RS := Lib.hid rS
  obtain ⟨p0, p1, p2⟩ := zad rP
  obtain ⟨s0, s1, s2, s3, s4, s5, s6⟩ := zba rS
  clear hb0 rP rS
  have hmm := @run_makeMap Tryz.prog
  have hm0 : ∀ w : World, (method 295 87 (.agg #[.slice A p.A.length cA, .slice B p.B.length cB, .slice C p.C.length cC, .int .i64 2, .bool s.val.neg, .slice P s.val.num.length cP, .slice Q s.val.den.length cQ, .slice X s.X.length cX, .slice D s.D.length cD, .slice R s.R.length cR]) "parlour/dual.proves").run Tryz.prog w = .ok (203, .agg #[.slice A p.A.length cA, .slice B p.B.length cB, .slice C p.C.length cC, .int .i64 2, .bool s.val.neg, .slice P s.val.num.length cP, .slice Q s.val.den.length cQ, .slice X s.X.length cX, .slice D s.D.length cD, .slice R s.R.length cR]) w := fun _ => by kernel_rfl
  have hm : ∀ w : World, (method 303 87 (.agg #[.slice A p.A.length cA, .slice B p.B.length cB, .slice C p.C.length cC, .int .i64 2, .bool s.val.neg, .slice P s.val.num.length cP, .slice Q s.val.den.length cQ, .slice X s.X.length cX, .slice D s.D.length cD, .slice R s.R.length cR]) "parlour/dual.proves").run Tryz.prog w = .ok (203, .agg #[.slice A p.A.length cA, .slice B p.B.length cB, .slice C p.C.length cC, .int .i64 2, .bool s.val.neg, .slice P s.val.num.length cP, .slice Q s.val.den.length cQ, .slice X s.X.length cX, .slice D s.D.length cD, .slice R s.R.length cR]) w := fun _ => by kernel_rfl
  go_enter Tryz.func13, Tryz.ntmps13
  go_wp2_with fail
  clear hw0
  refine (zdv HP.out HB.out HB0.out).mono ?_
  rw [He0.out]
  rintro e w1 ⟨rfl, hb⟩
  have hb1 := zaa HB0.out hb
  have HB1 := Lib.hid hb1
  have rP1 := RP.out.next hb
  have rS1 := RS.out.next hb
  have hzs := Hz.out
  have hs1 := hb.size
  have n1 : w.heap.size ≠ w1.heap.size := by omega
  have n2 : w.heap.size + 1 ≠ w1.heap.size := by omega
  have hown0 := World.ownsMap_made w1 Tryz.prog 3 zdc
  have hbA : Below w.heap.size w (w1.alloc (.map #[] 0)) := zae hb1 _
  have hsA : (w1.alloc (.map #[] 0)).heap.size = w1.heap.size + 1 := World.size_alloc _ _
  have rPA := rP1.alloc (.map #[] 0)
  have rSA := rS1.alloc (.map #[] 0)
  obtain ⟨p0, p1, p2⟩ := zad rPA
  obtain ⟨s0, s1, s2, s3, s4, s5, s6⟩ := zba rSA
  clear hb hzs
  go_wp2_with (first
    | (at_lookup; refine zdh _ rfl _ _ 89 rfl 3 91 zet Tryz.underlying89 (zeroCert _) w1.heap.size 3 _ rfl hown3 _ _ rfl (keyAt (x := 2) (by decide)) (.iface 87 (.agg #[.slice A p.A.length cA, .slice B p.B.length cB, .slice C p.C.length cC, .int .i64 2, .bool s.val.neg, .slice P s.val.num.length cP, .slice Q s.val.den.length cQ, .slice X s.X.length cX, .slice D s.D.length cD, .slice R s.R.length cR])) true rfl rfl ?_)
    | (refine zbh _ rfl _ _ _ 89 rfl 3 91 zet Tryz.underlying89 zdc w1.heap.size 2 _ rfl hown2 (by unfold maxLen; omega) (.int .i64 3) (.iface 88 (.agg #[.slice A p.A.length cA, .slice B p.B.length cB, .slice C p.C.length cC, .int .i64 2, .bool s.val.neg, .slice P s.val.num.length cP, .slice Q s.val.den.length cQ, .slice X s.X.length cX, .slice D s.D.length cD, .slice R s.R.length cR])) _ rfl rfl (keyAt (x := 3) (by decide)) _ [] rfl ?_; intro x3 hown3 hg3; have rP_3 := Row.grownB rP_2 hg3 n1; have rS_3 := Row.grownB rS_2 hg3 n2; have hb_3 := Below.grown hb_2 hg3 hb_2.size (fun k hk => by cases hk; exact hb1.size); obtain ⟨p0, p1, p2⟩ := zad rP_3; obtain ⟨s0, s1, s2, s3, s4, s5, s6⟩ := zba rS_3)
    | (refine zbh _ rfl _ _ _ 89 rfl 3 91 zet Tryz.underlying89 zdc w1.heap.size 1 _ rfl hown1 (by unfold maxLen; omega) (.int .i64 2) (.iface 87 (.agg #[.slice A p.A.length cA, .slice B p.B.length cB, .slice C p.C.length cC, .int .i64 2, .bool s.val.neg, .slice P s.val.num.length cP, .slice Q s.val.den.length cQ, .slice X s.X.length cX, .slice D s.D.length cD, .slice R s.R.length cR])) _ rfl rfl (keyAt (x := 2) (by decide)) _ [] rfl ?_; intro x2 hown2 hg2; have rP_2 := Row.grownB rP_1 hg2 n1; have rS_2 := Row.grownB rS_1 hg2 n2; have hb_2 := Below.grown hb_1 hg2 hb_1.size (fun k hk => by cases hk; exact hb1.size); obtain ⟨p0, p1, p2⟩ := zad rP_2; obtain ⟨s0, s1, s2, s3, s4, s5, s6⟩ := zba rS_2)
    | (refine zbh _ rfl _ _ _ 89 rfl 3 91 zet Tryz.underlying89 zdc w1.heap.size 0 _ rfl hown0 (by unfold maxLen; omega) (.int .i64 1) (.iface 86 (.agg #[.slice A p.A.length cA, .slice B p.B.length cB, .slice C p.C.length cC, .int .i64 2, .bool s.val.neg, .slice P s.val.num.length cP, .slice Q s.val.den.length cQ, .slice X s.X.length cX, .slice D s.D.length cD, .slice R s.R.length cR])) _ rfl rfl (keyAt (x := 1) (by decide)) _ [] rfl ?_; intro x1 hown1 hg1; have rP_1 := Row.grownB rPA hg1 n1; have rS_1 := Row.grownB rSA hg1 n2; have hb_1 := Below.grown hbA hg1 hbA.size (fun k hk => by cases hk; exact hb1.size); obtain ⟨p0, p1, p2⟩ := zad rP_1; obtain ⟨s0, s1, s2, s3, s4, s5, s6⟩ := zba rS_1))
  refine (HD.out _ hb_3).mono ?_
  rintro e w5 ⟨rfl, hb⟩
  go_wp2_with fail
  go_ret2
  exact ⟨rfl, zaa hb_3 hb⟩
set_option maxRecDepth 100000 in
set_option maxHeartbeats 4000000 in
theorem accepts_3 {w : World} {vp vs : Value} {p : Prog} {s : Sol} {b : Bool} (hp : IsP w (Old w) vp p) (hs : IsSol w (Old w) vs s) (hB : Bru w) (h0 : chkP p = 0) (hst : s.st = 3)
    (hD : ∀ v, IsPS w (Old w) v p s → ∀ W, Below w.heap.size w W → Calls Tryz.prog 208 #[v] W fun e w' => e = .returned (.bool b) ∧ Below W.heap.size W w') :
    Calls Tryz.prog 13 #[vp, vs] w fun e w' => e = .returned (.tuple #[.bool b, .int .i64 0]) ∧ Below w.heap.size w w' := by
  have hps : ∃ A cA B cB C cC P cP Q cQ X cX D cD R cR, vp = .agg #[.slice A p.A.length cA, .slice B p.B.length cB, .slice C p.C.length cC] ∧ vs = .agg #[.int .i64 s.st, .bool s.val.neg, .slice P s.val.num.length cP, .slice Q s.val.den.length cQ, .slice X s.X.length cX, .slice D s.D.length cD, .slice R s.R.length cR] ∧ IsPS w (Old w) (.agg #[.slice A p.A.length cA, .slice B p.B.length cB, .slice C p.C.length cC, .int .i64 s.st, .bool s.val.neg, .slice P s.val.num.length cP, .slice Q s.val.den.length cQ, .slice X s.X.length cX, .slice D s.D.length cD, .slice R s.R.length cR]) p s := by
    obtain ⟨A, cA, B, cB, C, cC, rfl, h1, h2, h3⟩ := hp
    obtain ⟨P, cP, Q, cQ, X, cX, D, cD, R, cR, rfl, h4, h5, h6, h7⟩ := hs
    exact ⟨A, cA, B, cB, C, cC, P, cP, Q, cQ, X, cX, D, cD, R, cR, rfl, rfl, A, cA, B, cB, C, cC, P, cP, Q, cQ, X, cX, D, cD, R, cR, rfl, h1, h2, h3, h4, h5, h6, h7⟩
  have HP := Lib.hid hp
  have HB := Lib.hid hB
  clear hp hs hB
  obtain ⟨A, cA, B, cB, C, cC, P, cP, Q, cQ, X, cX, D, cD, R, cR, rfl, rfl, hv⟩ := hps
  have He0 := Lib.hid h0
  rw [hst] at hv ⊢
  have HD := Lib.hid (hD _ hv)
  clear hD hv h0 hst
  obtain ⟨w0, hw0, hb0, rP, rS, Hz⟩ := zcl w #[.slice A p.A.length cA, .slice B p.B.length cB, .slice C p.C.length cC] #[.int .i64 3, .bool s.val.neg, .slice P s.val.num.length cP, .slice Q s.val.den.length cQ, .slice X s.X.length cX, .slice D s.D.length cD, .slice R s.R.length cR] 27 33
  have HB0 := Lib.hid hb0
  have RP := Lib.hid rP
  have RS := Lib.hid rS
  obtain ⟨p0, p1, p2⟩ := zad rP
  obtain ⟨s0, s1, s2, s3, s4, s5, s6⟩ := zba rS
  clear hb0 rP rS
  have hmm := @run_makeMap Tryz.prog
  have hm0 : ∀ w : World, (method 295 88 (.agg #[.slice A p.A.length cA, .slice B p.B.length cB, .slice C p.C.length cC, .int .i64 3, .bool s.val.neg, .slice P s.val.num.length cP, .slice Q s.val.den.length cQ, .slice X s.X.length cX, .slice D s.D.length cD, .slice R s.R.length cR]) "parlour/dual.proves").run Tryz.prog w = .ok (208, .agg #[.slice A p.A.length cA, .slice B p.B.length cB, .slice C p.C.length cC, .int .i64 3, .bool s.val.neg, .slice P s.val.num.length cP, .slice Q s.val.den.length cQ, .slice X s.X.length cX, .slice D s.D.length cD, .slice R s.R.length cR]) w := fun _ => by kernel_rfl
  have hm : ∀ w : World, (method 303 88 (.agg #[.slice A p.A.length cA, .slice B p.B.length cB, .slice C p.C.length cC, .int .i64 3, .bool s.val.neg, .slice P s.val.num.length cP, .slice Q s.val.den.length cQ, .slice X s.X.length cX, .slice D s.D.length cD, .slice R s.R.length cR]) "parlour/dual.proves").run Tryz.prog w = .ok (208, .agg #[.slice A p.A.length cA, .slice B p.B.length cB, .slice C p.C.length cC, .int .i64 3, .bool s.val.neg, .slice P s.val.num.length cP, .slice Q s.val.den.length cQ, .slice X s.X.length cX, .slice D s.D.length cD, .slice R s.R.length cR]) w := fun _ => by kernel_rfl
  go_enter Tryz.func13, Tryz.ntmps13
  go_wp2_with fail
  clear hw0
  refine (zdv HP.out HB.out HB0.out).mono ?_
  rw [He0.out]
  rintro e w1 ⟨rfl, hb⟩
  have hb1 := zaa HB0.out hb
  have HB1 := Lib.hid hb1
  have rP1 := RP.out.next hb
  have rS1 := RS.out.next hb
  have hzs := Hz.out
  have hs1 := hb.size
  have n1 : w.heap.size ≠ w1.heap.size := by omega
  have n2 : w.heap.size + 1 ≠ w1.heap.size := by omega
  have hown0 := World.ownsMap_made w1 Tryz.prog 3 zdc
  have hbA : Below w.heap.size w (w1.alloc (.map #[] 0)) := zae hb1 _
  have hsA : (w1.alloc (.map #[] 0)).heap.size = w1.heap.size + 1 := World.size_alloc _ _
  have rPA := rP1.alloc (.map #[] 0)
  have rSA := rS1.alloc (.map #[] 0)
  obtain ⟨p0, p1, p2⟩ := zad rPA
  obtain ⟨s0, s1, s2, s3, s4, s5, s6⟩ := zba rSA
  clear hb hzs
  go_wp2_with (first
    | (at_lookup; refine zdh _ rfl _ _ 89 rfl 3 91 zet Tryz.underlying89 (zeroCert _) w1.heap.size 3 _ rfl hown3 _ _ rfl (keyAt (x := 3) (by decide)) (.iface 88 (.agg #[.slice A p.A.length cA, .slice B p.B.length cB, .slice C p.C.length cC, .int .i64 3, .bool s.val.neg, .slice P s.val.num.length cP, .slice Q s.val.den.length cQ, .slice X s.X.length cX, .slice D s.D.length cD, .slice R s.R.length cR])) true rfl rfl ?_)
    | (refine zbh _ rfl _ _ _ 89 rfl 3 91 zet Tryz.underlying89 zdc w1.heap.size 2 _ rfl hown2 (by unfold maxLen; omega) (.int .i64 3) (.iface 88 (.agg #[.slice A p.A.length cA, .slice B p.B.length cB, .slice C p.C.length cC, .int .i64 3, .bool s.val.neg, .slice P s.val.num.length cP, .slice Q s.val.den.length cQ, .slice X s.X.length cX, .slice D s.D.length cD, .slice R s.R.length cR])) _ rfl rfl (keyAt (x := 3) (by decide)) _ [] rfl ?_; intro x3 hown3 hg3; have rP_3 := Row.grownB rP_2 hg3 n1; have rS_3 := Row.grownB rS_2 hg3 n2; have hb_3 := Below.grown hb_2 hg3 hb_2.size (fun k hk => by cases hk; exact hb1.size); obtain ⟨p0, p1, p2⟩ := zad rP_3; obtain ⟨s0, s1, s2, s3, s4, s5, s6⟩ := zba rS_3)
    | (refine zbh _ rfl _ _ _ 89 rfl 3 91 zet Tryz.underlying89 zdc w1.heap.size 1 _ rfl hown1 (by unfold maxLen; omega) (.int .i64 2) (.iface 87 (.agg #[.slice A p.A.length cA, .slice B p.B.length cB, .slice C p.C.length cC, .int .i64 3, .bool s.val.neg, .slice P s.val.num.length cP, .slice Q s.val.den.length cQ, .slice X s.X.length cX, .slice D s.D.length cD, .slice R s.R.length cR])) _ rfl rfl (keyAt (x := 2) (by decide)) _ [] rfl ?_; intro x2 hown2 hg2; have rP_2 := Row.grownB rP_1 hg2 n1; have rS_2 := Row.grownB rS_1 hg2 n2; have hb_2 := Below.grown hb_1 hg2 hb_1.size (fun k hk => by cases hk; exact hb1.size); obtain ⟨p0, p1, p2⟩ := zad rP_2; obtain ⟨s0, s1, s2, s3, s4, s5, s6⟩ := zba rS_2)
    | (refine zbh _ rfl _ _ _ 89 rfl 3 91 zet Tryz.underlying89 zdc w1.heap.size 0 _ rfl hown0 (by unfold maxLen; omega) (.int .i64 1) (.iface 86 (.agg #[.slice A p.A.length cA, .slice B p.B.length cB, .slice C p.C.length cC, .int .i64 3, .bool s.val.neg, .slice P s.val.num.length cP, .slice Q s.val.den.length cQ, .slice X s.X.length cX, .slice D s.D.length cD, .slice R s.R.length cR])) _ rfl rfl (keyAt (x := 1) (by decide)) _ [] rfl ?_; intro x1 hown1 hg1; have rP_1 := Row.grownB rPA hg1 n1; have rS_1 := Row.grownB rSA hg1 n2; have hb_1 := Below.grown hbA hg1 hbA.size (fun k hk => by cases hk; exact hb1.size); obtain ⟨p0, p1, p2⟩ := zad rP_1; obtain ⟨s0, s1, s2, s3, s4, s5, s6⟩ := zba rS_1))
  refine (HD.out _ hb_3).mono ?_
  rintro e w5 ⟨rfl, hb⟩
  go_wp2_with fail
  go_ret2
  exact ⟨rfl, zaa hb_3 hb⟩
end Go.Proofs.YtblpaocignlpkaaGreatDoor
namespace Go.Proofs.YtblpaocignlpkaaGreatDoor
open Go.RowKit
set_option linter.unusedVariables false
def cntU : List Bool → Nat
  | [] => 0
  | b :: l => (if b then 0 else 1) + cntU l
theorem cntU_set : ∀ {l : List Bool} {i : Nat}, l[i]? = some false → cntU (l.set i true) + 1 = cntU l
  | b :: l, 0, h => by simp at h; subst h; simp [cntU]; omega
  | b :: l, i + 1, h => by
    have := cntU_set (l := l) (i := i) (by simpa using h)
    simp only [List.set_cons_succ, cntU]
    omega
theorem cntU_zero : ∀ {l : List Bool} {i : Nat} {b : Bool}, cntU l = 0 → l[i]? = some b → b = true
  | c :: l, 0, b, h, hb => by
    simp at hb
    subst hb
    cases c
    · simp [cntU] at h
    · rfl
  | c :: l, i + 1, b, h, hb => by
    refine cntU_zero (l := l) (i := i) ?_ (by simpa using hb)
    simp only [cntU] at h
    omega
theorem zfr (n : Nat) : cntU (List.replicate n false) = n := by
  induction n with
  | zero => rfl
  | succ n ih => rw [List.replicate_succ, cntU, ih]; simp; omega
def zcp (o : Oper) : List Nat := (o.after.toList.filter (Region.binds .any)).map (·.on)
def zfo (ops : Array Oper) (t : Nat) : Bool := ops.toList.any fun o => o.dst == some t
def growsB (ops : Array Oper) (n : Nat) : Bool :=
  (List.range ops.size).all fun i => (ops[i]?).any fun o =>
    (o.dst.any fun d => decide (d < n) && (List.range ops.size).all fun j => decide (j = i) || !((ops[j]?).any fun oj => oj.dst == some d)) && (zcp o).all fun j => decide (j < i)
section
variable {P : Program} {ops : Array Oper} {Q : Exit → Act → World → Prop} {Φ : Nat → Value → World → Prop} {a0 : Act} {w0 : World}
theorem growsB_at {n i : Nat} {o : Oper} (h : growsB ops n = true) (hi : ops[i]? = some o) :
    ∃ d, o.dst = some d ∧ d < n ∧ (∀ j oj, ops[j]? = some oj → oj.dst = some d → j = i) ∧ ∀ j ∈ zcp o, j < i := by
  unfold growsB at h
  have hlt : i < ops.size := (Array.getElem?_eq_some_iff.1 hi).1
  have h1 := List.all_eq_true.1 h i (List.mem_range.2 hlt)
  rw [hi] at h1
  simp only [Option.any_some, Bool.and_eq_true] at h1
  obtain ⟨h2, h3⟩ := h1
  cases hd : o.dst with
  | none => rw [hd] at h2; simp at h2
  | some d =>
    rw [hd] at h2
    simp only [Option.any_some, Bool.and_eq_true, decide_eq_true_eq] at h2
    refine ⟨d, rfl, h2.1, fun j oj hj hoj => ?_, fun j hj => by simpa using List.all_eq_true.1 h3 j hj⟩
    have hjl : j < ops.size := (Array.getElem?_eq_some_iff.1 hj).1
    have h4 := List.all_eq_true.1 h2.2 j (List.mem_range.2 hjl)
    rw [hj] at h4
    simp only [Option.any_some, hoj, beq_self_eq_true, Bool.not_true, Bool.or_false, decide_eq_true_eq] at h4
    exact h4
structure GrowInv (ops : Array Oper) (Φ : Nat → Value → World → Prop) (a0 : Act) (w0 : World) (listed : Array Bool) (a : Act) (w : World) : Prop where
  size : a.tmps.size = a0.tmps.size
  defers : a.defers = a0.defers
  below : Below w0.heap.size w0 w
  free : ∀ t, zfo ops t = false → a.tmps[t]? = a0.tmps[t]?
  holds : ∀ j oj d, ops[j]? = some oj → listed[j]? = some true → oj.dst = some d → Φ j (a.tmps.getD d undef) w
theorem put_size (a : Act) (d : Tmp) (v : Value) : (a.put (some d) v).tmps.size = a.tmps.size := by simp [Act.put]
theorem put_other (a : Act) {d t : Nat} (v : Value) (h : t ≠ d) : (a.put (some d) v).tmps[t]? = a.tmps[t]? := by
  simp only [Act.put]
  rw [Array.getElem?_setIfInBounds_ne (Ne.symm h)]
theorem put_same (a : Act) {d : Nat} (v : Value) (h : d < a.tmps.size) : (a.put (some d) v).tmps.getD d undef = v := by
  simp [Act.put, h]
theorem getD_of {a b : Array Value} {t : Nat} (h : a[t]? = b[t]?) : a.getD t undef = b.getD t undef := by
  simp only [Array.getD_eq_getD_getElem?, h]
theorem zdq {listed : Array Bool} {i : Nat} {o : Oper} (hi : ops[i]? = some o) (hr : i ∈ Region.ready .any ops listed) : listed.getD i true = false ∧ ∀ j ∈ zcp o, listed.getD j false = true := by
  unfold Region.ready at hr
  have h1 := (List.mem_filter.1 hr).2
  rw [hi] at h1
  simp only [Option.map_some, Option.getD_some, Bool.and_eq_true, Bool.not_eq_true'] at h1
  refine ⟨h1.1, fun j hj => ?_⟩
  obtain ⟨e, he, rfl⟩ := List.mem_map.1 hj
  obtain ⟨he, hb⟩ := List.mem_filter.1 he
  have h2 := (Array.all_eq_true'.1 h1.2) e (by simpa using he)
  rw [hb] at h2
  simpa using h2
theorem wpAny_grow (hst : ∀ i v w w', Φ i v w → Below w.heap.size w w' → Φ i v w') (hg : growsB ops a0.tmps.size = true)
    (hstep : ∀ i o, ops[i]? = some o → ∀ (a : Act) (w : World), a.tmps.size = a0.tmps.size → a.defers = a0.defers → Below w0.heap.size w0 w → (∀ t, zfo ops t = false → a.tmps[t]? = a0.tmps[t]?) →
      (∀ j oj d, j ∈ zcp o → ops[j]? = some oj → oj.dst = some d → Φ j (a.tmps.getD d undef) w) →
      if Region.wanted o (yielded ops a.tmps) = true then o.wp P a w (fun a' w' => ∃ v, a' = a.put o.dst v ∧ Below w.heap.size w w' ∧ Φ i v w') Q else Φ i undef w)
    (hend : ∀ (a : Act) (w : World), a.tmps.size = a0.tmps.size → a.defers = a0.defers → Below w0.heap.size w0 w → (∀ t, zfo ops t = false → a.tmps[t]? = a0.tmps[t]?) →
      (∀ j oj d, ops[j]? = some oj → oj.dst = some d → Φ j (a.tmps.getD d undef) w) → Q .normal a w) :
    ∀ (fuel : Nat) (listed : Array Bool) (a : Act) (w : World), listed.size = ops.size → cntU listed.toList ≤ fuel → GrowInv ops Φ a0 w0 listed a w → wpAny P .any ops Q fuel listed a w := by
  have done : ∀ (listed : Array Bool) (a : Act) (w : World), listed.size = ops.size → Region.ready .any ops listed = [] → GrowInv ops Φ a0 w0 listed a w → Q .normal a w := by
    intro listed a w hsz hr inv
    have all : ∀ n i, i < n → i < ops.size → listed[i]? = some true := by
      intro n
      induction n with
      | zero => intro i hi; omega
      | succ n ih =>
        intro i hi hlt
        rcases Nat.lt_or_ge i n with h | h
        · exact ih i h hlt
        · obtain rfl : i = n := by omega
          have hl : i < listed.size := by omega
          cases hb : listed[i] with
          | true => rw [Array.getElem?_eq_getElem hl, hb]
          | false =>
            exfalso
            have hm : i ∈ Region.ready .any ops listed := by
              unfold Region.ready
              refine List.mem_filter.2 ⟨List.mem_range.2 hlt, ?_⟩
              have hi : ops[i]? = some ops[i] := Array.getElem?_eq_getElem hlt
              obtain ⟨d, hd, _, _, hn⟩ := growsB_at hg hi
              rw [hi]
              simp only [Option.map_some, Option.getD_some, Bool.and_eq_true, Bool.not_eq_true']
              refine ⟨by simp [Array.getD_eq_getD_getElem?, Array.getElem?_eq_getElem hl, hb], Array.all_eq_true'.2 fun e he => ?_⟩
              cases hbd : Region.binds .any e with
              | false => rfl
              | true =>
                have hj := hn e.on (List.mem_map.2 ⟨e, List.mem_filter.2 ⟨by simpa using he, hbd⟩, rfl⟩)
                have := ih e.on hj (by omega)
                simp [Array.getD_eq_getD_getElem?, this]
            rw [hr] at hm
            cases hm
    exact hend a w inv.size inv.defers inv.below inv.free fun j oj d hj hd => inv.holds j oj d hj (all (j + 1) j (by omega) (Array.getElem?_eq_some_iff.1 hj).1) hd
  intro fuel
  induction fuel with
  | zero =>
    intro listed a w hsz hc inv
    have hr : Region.ready .any ops listed = [] := by
      cases hr : Region.ready .any ops listed with
      | nil => rfl
      | cons i l =>
        exfalso
        have hm : i ∈ Region.ready .any ops listed := by rw [hr]; simp
        have hlt : i < ops.size := by
          unfold Region.ready at hm
          exact List.mem_range.1 (List.mem_filter.1 hm).1
        have h1 := (zdq (Array.getElem?_eq_getElem hlt) hm).1
        have hl : i < listed.size := by omega
        have h2 := cntU_zero (l := listed.toList) (i := i) (b := listed[i]) (by omega) (by simp [hl])
        simp [Array.getD_eq_getD_getElem?, Array.getElem?_eq_getElem hl, h2] at h1
    exact ⟨hr, done listed a w hsz hr inv⟩
  | succ fuel ih =>
    intro listed a w hsz hc inv
    refine ⟨fun hr => done listed a w hsz hr inv, fun i hm => ?_⟩
    have hlt : i < ops.size := by
      unfold Region.ready at hm
      exact List.mem_range.1 (List.mem_filter.1 hm).1
    have hi : ops[i]? = some ops[i] := Array.getElem?_eq_getElem hlt
    obtain ⟨h1, h2⟩ := zdq hi hm
    have hl : i < listed.size := by omega
    have hb : listed[i] = false := by simpa [Array.getD_eq_getD_getElem?, Array.getElem?_eq_getElem hl] using h1
    obtain ⟨d, hd, hdn, hdu, _⟩ := growsB_at hg hi
    have hs := hstep i ops[i] hi a w inv.size inv.defers inv.below inv.free fun j oj dj hj hoj hdj => inv.holds j oj dj hoj (by
      have h3 := h2 j hj
      have hjl : j < listed.size := by
        have := (Array.getElem?_eq_some_iff.1 hoj).1
        omega
      rw [Array.getElem?_eq_getElem hjl]
      simp only [Array.getD_eq_getD_getElem?, Array.getElem?_eq_getElem hjl, Option.getD_some] at h3
      rw [h3]) hdj
    have next : ∀ (v : Value) (w' : World), Below w.heap.size w w' → Φ i v w' → wpAny P .any ops Q fuel (listed.setIfInBounds i true) (a.put ops[i].dst v) w' := by
      intro v w' hbw hv
      rw [hd]
      refine ih _ _ _ (by simp [hsz]) ?_ ⟨by rw [put_size]; exact inv.size, inv.defers, inv.below.trans (hbw.mono inv.below.size), fun t ht => ?_, fun j oj dj hj hlj hdj => ?_⟩
      · have := cntU_set (l := listed.toList) (i := i) (by simp [hl, hb])
        simp only [Array.toList_setIfInBounds]
        omega
      · rw [put_other _ _ (by
          rintro rfl
          unfold zfo at ht
          rw [List.any_eq_false] at ht
          exact ht ops[i] (by simp) (by rw [hd]; simp))]
        exact inv.free t ht
      · by_cases hji : j = i
        · subst hji
          rw [hi] at hj
          cases hj
          rw [hd] at hdj
          cases hdj
          rw [put_same _ _ (by rw [inv.size]; exact hdn)]
          exact hv
        · have hne : dj ≠ d := fun e => hji (hdu j oj hj (by rw [hdj, e]))
          rw [getD_of (put_other a v hne)]
          refine hst _ _ _ _ (inv.holds j oj dj hj ?_ hdj) hbw
          rwa [Array.getElem?_setIfInBounds_ne (Ne.symm hji)] at hlj
    unfold wpOp
    rw [hi]
    simp only
    split
    · rename_i hw
      rw [if_pos hw] at hs
      exact .inl (Oper.wp_mono (fun a' w' ⟨v, ha, hbw, hv⟩ => by rw [ha]; exact next v w' hbw hv) hs)
    · rename_i hw
      rw [if_neg hw] at hs
      exact next undef w (Below.refl _ _) hs
theorem zeh {id : Nat} (Φ : Nat → Value → World → Prop) (hm : P.follows .mixedOrders = true) (hst : ∀ i v w w', Φ i v w → Below w.heap.size w w' → Φ i v w') (hg : growsB ops a0.tmps.size = true)
    (hstep : ∀ i o, ops[i]? = some o → ∀ (a : Act) (w : World), a.tmps.size = a0.tmps.size → a.defers = a0.defers → Below w0.heap.size w0 w → (∀ t, zfo ops t = false → a.tmps[t]? = a0.tmps[t]?) →
      (∀ j oj d, j ∈ zcp o → ops[j]? = some oj → oj.dst = some d → Φ j (a.tmps.getD d undef) w) →
      if Region.wanted o (yielded ops a.tmps) = true then o.wp P a w (fun a' w' => ∃ v, a' = a.put o.dst v ∧ Below w.heap.size w w' ∧ Φ i v w') Q else Φ i undef w)
    (hend : ∀ (a : Act) (w : World), a.tmps.size = a0.tmps.size → a.defers = a0.defers → Below w0.heap.size w0 w → (∀ t, zfo ops t = false → a.tmps[t]? = a0.tmps[t]?) →
      (∀ j oj d, ops[j]? = some oj → oj.dst = some d → Φ j (a.tmps.getD d undef) w) → Q .normal a w) :
    (Code.region id ops true).wp P Q a0 w0 := by
  refine wp_region_any hm (wpAny_grow hst hg hstep hend _ _ _ _ (by simp) (by simp [zfr]) ⟨rfl, rfl, ⟨rfl, rfl, rfl, Nat.le_refl _, fun _ _ => rfl⟩, fun _ _ => rfl, fun j oj d hj hlj hd => ?_⟩)
  rw [Array.getElem?_replicate] at hlj
  split at hlj <;> cases hlj
end
theorem zdg {l : List Int} (h : ∀ x ∈ l, x.natAbs ≤ 1000000) : ∀ q ∈ zbd l, Sz q 1024 := by
  intro q hq
  obtain ⟨x, hx, rfl⟩ := List.mem_map.1 hq
  exact (quot_sz (by have := h x hx; omega) (by omega) (by omega)).le (by omega)
theorem good_ex : Good exQ 1024 := by
  refine ⟨rfl, ?_, ?_, zdg (by decide), zdg (by decide), by decide, by decide⟩
  · intro row hr
    simp only [exQ, List.mem_cons, List.not_mem_nil, or_false] at hr
    rcases hr with rfl | rfl <;> rfl
  · intro row hr
    simp only [exQ, List.mem_cons, List.not_mem_nil, or_false] at hr
    rcases hr with rfl | rfl
    · exact zdg (by decide)
    · exact zdg (by decide)
theorem quot12 : zea 12 1 = 12 := by decide +kernel
theorem ex_gap : dotQ exQ.B (zbd [3, 0]) - dotQ exQ.C (zbd [3, 1]) = zea 1 1 := by decide +kernel
theorem ex_feas : zeg exQ.A exQ.B (zbd [3, 1]) = true ∧ sufB exQ.A exQ.C (zbd [3, 0]) = true := by decide +kernel
theorem ex_best : zds exQ (zbd [4, 0]) (zbd [3, 0]) = true ∧ optEqual exQ (zbd [4, 0]) (zbd [3, 0]) (zea 12 1) = true := by decide +kernel
theorem ex_dual : zca exQ = ⟨[zbd [-1, -1], zbd [-1, -3]], zbd [-3, -2], zbd [-4, -6]⟩ := by
  have h1 : (zca exQ).A = [zbd [-1, -1], zbd [-1, -3]] := by decide +kernel
  have h2 : (zca exQ).B = zbd [-3, -2] := by decide +kernel
  have h3 : (zca exQ).C = zbd [-4, -6] := by decide +kernel
  rw [← h1, ← h2, ← h3]
theorem ex_giv (x y : List Int) (hx : x.length = 2) (hy : y.length = 2) (sx : ∀ e ∈ x, e.natAbs ≤ 1000000) (sy : ∀ e ∈ y, e.natAbs ≤ 1000000) : givE (rawP exQ) [(rawP exQ).C.length, (rawP exQ).B.length] [rawV (zbd x), rawV (zbd y)] = 0 := by
  unfold givE
  rw [if_neg (by rw [chkP_raw good_ex]; simp)]
  have hv : ∀ l : List Int, l.length = 2 → (∀ e ∈ l, e.natAbs ≤ 1000000) → vecE 2 (rawV (zbd l)) = 0 := by
    intro l hl hs
    unfold vecE
    have h1 : chkV (rawV (zbd l)) = 0 := chkV_raw (by rw [wholeQ_len, hl]; omega) (zdg hs)
    rw [if_neg (by rw [h1]; simp), if_neg (by rw [zay, wholeQ_len, hl]; simp)]
  have e1 : (rawP exQ).C.length = 2 := rfl
  have e2 : (rawP exQ).B.length = 2 := rfl
  rw [e1, e2]
  simp only [List.zipWith_cons_cons, List.zipWith_nil_left, fstE, hv x hx sx, hv y hy sy]
  rfl
theorem best_opt : OptQ (rawP exQ) bestS exQ (zbd [4, 0]) (zbd [3, 0]) (zea 12 1) :=
  ⟨rfl, good_ex, rfl, rfl, rfl, rfl, rfl, zdg (by decide), zdg (by decide), (quot_sz (by decide) (by decide) (by decide)).le (by omega)⟩
theorem best_proper : zch (rawP exQ) bestS = true := by
  unfold zch
  have h1 : zav bestS.X (rawP exQ).C.length = true := properB_of (q := zbd [4, 0]) rfl (by decide) (zdg (by decide))
  have h2 : zav bestS.D (rawP exQ).B.length = true := properB_of (q := zbd [3, 0]) rfl (by decide) (zdg (by decide))
  have h3 : chkQ bestS.val = 0 := chkQ_raw ((quot_sz (by decide) (by decide) (by decide)).le (by omega))
  rw [h1, h2, h3]
  rfl
theorem gap_one : gapR (zea 1 1) = raw (zea 1 1) ∧ gapE (zea 1 1) = 0 := by
  have h : fitsQ (zea 1 1) = true := fitsQ_true.2 ((quot_sz (by decide) (by decide) (by decide)).le (by omega))
  unfold gapR gapE
  rw [h]
  exact ⟨rfl, rfl⟩
def zde (i : Nat) (v : Value) (w : World) : Prop :=
  match i with
  | 0 => v = .int .i64 0
  | 1 => v = .bool true
  | 2 => v = .bool true
  | 3 => IsP w (Old w) v (rawP (zca exQ))
  | 4 => ∃ g, v = .slice (some ⟨g, 0, none⟩) 2 2 ∧ Row w g 3 [.int .i64 (-1), .int .i64 (-1)]
  | 5 => IsV w (Old w) v (rawV (zbd [-1, -1]))
  | 6 => ∃ g, v = .slice (some ⟨g, 0, none⟩) 2 2 ∧ Row w g 3 [.int .i64 (-1), .int .i64 (-3)]
  | 7 => IsV w (Old w) v (rawV (zbd [-1, -3]))
  | 8 => IsM w (Old w) v (rawM [zbd [-1, -1], zbd [-1, -3]])
  | 9 => ∃ g, v = .slice (some ⟨g, 0, none⟩) 2 2 ∧ Row w g 3 [.int .i64 (-3), .int .i64 (-2)]
  | 10 => IsV w (Old w) v (rawV (zbd [-3, -2]))
  | 11 => ∃ g, v = .slice (some ⟨g, 0, none⟩) 2 2 ∧ Row w g 3 [.int .i64 (-4), .int .i64 (-6)]
  | 12 => IsV w (Old w) v (rawV (zbd [-4, -6]))
  | 13 => IsP w (Old w) v (rawP (zca exQ))
  | 14 => v = .bool true
  | 15 => v = .bool true
  | 16 => v = .bool true
  | 17 => v = .int .i64 0
  | 18 => v = .bool true
  | 19 => v = .bool true
  | 20 => v = .bool true
  | 21 => IsR w (Old w) v (raw (zea 1 1))
  | 22 => IsQ w (Old w) v (zea 1 1)
  | 23 => v = .bool true
  | 24 => v = .bool true
  | 25 => v = .bool true
  | 26 => v = .bool true
  | 27 => v = .bool true
  | 28 => v = .bool true
  | 29 => v = .int .i64 0
  | 30 => v = .bool true
  | 31 => v = .bool true
  | 32 => v = .bool true
  | _ => True
theorem awPhi_stb : ∀ (i : Nat) (v : Value) (w w' : World), zde i v w → Below w.heap.size w w' → zde i v w' := fun i v w w' h hb => match i, h with
  | 0, h => h
  | 1, h => h
  | 2, h => h
  | 3, h => IsP.stb.next h hb
  | 4, h => by obtain ⟨g, e, r⟩ := h; exact ⟨g, e, r.next hb⟩
  | 5, h => IsV.stb.next h hb
  | 6, h => by obtain ⟨g, e, r⟩ := h; exact ⟨g, e, r.next hb⟩
  | 7, h => IsV.stb.next h hb
  | 8, h => IsM.stb.next h hb
  | 9, h => by obtain ⟨g, e, r⟩ := h; exact ⟨g, e, r.next hb⟩
  | 10, h => IsV.stb.next h hb
  | 11, h => by obtain ⟨g, e, r⟩ := h; exact ⟨g, e, r.next hb⟩
  | 12, h => IsV.stb.next h hb
  | 13, h => IsP.stb.next h hb
  | 14, h => h
  | 15, h => h
  | 16, h => h
  | 17, h => h
  | 18, h => h
  | 19, h => h
  | 20, h => h
  | 21, h => IsR.stb.next h hb
  | 22, h => IsQ.stb.next h hb
  | 23, h => h
  | 24, h => h
  | 25, h => h
  | 26, h => h
  | 27, h => h
  | 28, h => h
  | 29, h => h
  | 30, h => h
  | 31, h => h
  | 32, h => h
  | _ + 33, _ => trivial
theorem zbc {P : Program} {o : Oper} {a : Act} {w : World} {Φ : Value → World → Prop} {Q : Exit → Act → World → Prop} (h : ∀ K : Act → World → Prop, (∀ v w', Below w.heap.size w w' → Φ v w' → K (a.put o.dst v) w') → o.wp P a w K Q) : o.wp P a w (fun a' w' => ∃ v, a' = a.put o.dst v ∧ Below w.heap.size w w' ∧ Φ v w') Q :=
  h _ fun v w' hb hv => ⟨v, rfl, hb, hv⟩
end Go.Proofs.YtblpaocignlpkaaGreatDoor
