/-
  The reference's accepts: status optimal.
-/
import Derived.Test.YtblpaocignlpkaaGreatDoorProofDualAccepts07
import Derived.Test.YtblpaocignlpkaaGreatDoorProofDualAccepts01
namespace Go.Proofs.YtblpaocignlpkaaGreatDoor
open Go.RowKit
set_option linter.unusedVariables false
theorem zfb (n : Nat) : zbj (n + 1) = zbj n ++ [0] := List.replicate_succ'
theorem andl {a b : Bool} (h : (a && b) = true) : a = true := (Bool.and_eq_true_iff.1 h).1
theorem open189 {l : List Value} (h : l.length = 189) : ∃ fs : Nat → Value, l = [fs 0, fs 1, fs 2, fs 3, fs 4, fs 5, fs 6, fs 7, fs 8, fs 9, fs 10, fs 11, fs 12, fs 13, fs 14, fs 15, fs 16, fs 17, fs 18, fs 19, fs 20, fs 21, fs 22, fs 23, fs 24, fs 25, fs 26, fs 27, fs 28, fs 29, fs 30, fs 31, fs 32, fs 33, fs 34, fs 35, fs 36, fs 37, fs 38, fs 39, fs 40, fs 41, fs 42, fs 43, fs 44, fs 45, fs 46, fs 47, fs 48, fs 49, fs 50, fs 51, fs 52, fs 53, fs 54, fs 55, fs 56, fs 57, fs 58, fs 59, fs 60, fs 61, fs 62, fs 63, fs 64, fs 65, fs 66, fs 67, fs 68, fs 69, fs 70, fs 71, fs 72, fs 73, fs 74, fs 75, fs 76, fs 77, fs 78, fs 79, fs 80, fs 81, fs 82, fs 83, fs 84, fs 85, fs 86, fs 87, fs 88, fs 89, fs 90, fs 91, fs 92, fs 93, fs 94, fs 95, fs 96, fs 97, fs 98, fs 99, fs 100, fs 101, fs 102, fs 103, fs 104, fs 105, fs 106, fs 107, fs 108, fs 109, fs 110, fs 111, fs 112, fs 113, fs 114, fs 115, fs 116, fs 117, fs 118, fs 119, fs 120, fs 121, fs 122, fs 123, fs 124, fs 125, fs 126, fs 127, fs 128, fs 129, fs 130, fs 131, fs 132, fs 133, fs 134, fs 135, fs 136, fs 137, fs 138, fs 139, fs 140, fs 141, fs 142, fs 143, fs 144, fs 145, fs 146, fs 147, fs 148, fs 149, fs 150, fs 151, fs 152, fs 153, fs 154, fs 155, fs 156, fs 157, fs 158, fs 159, fs 160, fs 161, fs 162, fs 163, fs 164, fs 165, fs 166, fs 167, fs 168, fs 169, fs 170, fs 171, fs 172, fs 173, fs 174, fs 175, fs 176, fs 177, fs 178, fs 179, fs 180, fs 181, fs 182, fs 183, fs 184, fs 185, fs 186, fs 187, fs 188] := by
  refine ⟨fun i => l.getD i undef, ?_⟩
  have e : l = (List.range 189).map (fun i => l.getD i undef) := by
    apply List.ext_getElem
    · simp [h]
    · intro i h1 h2
      simp [List.getD_eq_getElem?_getD, List.getElem?_eq_getElem h1]
  exact e.trans rfl
def Opt11 (w00 : World) (p : Prog) (s : Sol) (A : Option Addr) (cA : Nat) (B : Option Addr) (cB : Nat) (C : Option Addr) (cC : Nat) (P : Option Addr) (cP : Nat) (Q : Option Addr) (cQ : Nat) (X : Option Addr) (cX : Nat) (D : Option Addr) (cD : Nat) (R : Option Addr) (cR : Nat) (b0 b1 b2 g1 g2 o1 o2 : Bool) (k1 k2 : Int) (q : ProgQ) (zc zb : Rat) (i : Nat) (v : Value) (w : World) : Prop :=
  match i with
  | 0 => v = .pointer (some ⟨(w00.heap.size + 1), 6, none⟩)
  | 1 => v = .slice R s.R.length cR
  | 2 => v = .int .i64 (s.R.length : Nat)
  | 3 => v = .bool b0
  | 4 => v = .bool b0
  | 5 => b0 = true → v = .pointer (some ⟨(w00.heap.size + 1), 4, none⟩)
  | 6 => b0 = true → v = .slice X s.X.length cX
  | 7 => b0 = true → v = .int .i64 (p.C.length : Nat)
  | 8 => b0 = true → v = .bool b1
  | 9 => v = .bool (b0 && b1)
  | 10 => v = .bool (b0 && b1)
  | 11 => (b0 && b1) = true → v = .pointer (some ⟨(w00.heap.size + 1), 5, none⟩)
  | 12 => (b0 && b1) = true → v = .slice D s.D.length cD
  | 13 => (b0 && b1) = true → v = .int .i64 (p.B.length : Nat)
  | 14 => (b0 && b1) = true → v = .bool b2
  | 15 => v = .bool ((b0 && b1) && b2)
  | 16 => v = .bool ((b0 && b1) && b2)
  | 17 => ((b0 && b1) && b2) = true → v = .agg #[.slice A p.A.length cA, .slice B p.B.length cB, .slice C p.C.length cC]
  | 18 => ((b0 && b1) && b2) = true → v = .pointer (some ⟨(w00.heap.size + 1), 4, none⟩)
  | 19 => ((b0 && b1) && b2) = true → v = .slice X s.X.length cX
  | 20 => ((b0 && b1) && b2) = true → v = .bool g1
  | 21 => v = .bool (((b0 && b1) && b2) && g1)
  | 22 => v = .bool (((b0 && b1) && b2) && g1)
  | 23 => (((b0 && b1) && b2) && g1) = true → v = .agg #[.slice A p.A.length cA, .slice B p.B.length cB, .slice C p.C.length cC]
  | 24 => (((b0 && b1) && b2) && g1) = true → IsP w (Old w) v (rawP (zca q))
  | 25 => (((b0 && b1) && b2) && g1) = true → v = .pointer (some ⟨(w00.heap.size + 1), 5, none⟩)
  | 26 => (((b0 && b1) && b2) && g1) = true → v = .slice D s.D.length cD
  | 27 => (((b0 && b1) && b2) && g1) = true → v = .bool g2
  | 28 => v = .bool ((((b0 && b1) && b2) && g1) && g2)
  | 29 => v = .bool ((((b0 && b1) && b2) && g1) && g2)
  | 30 => ((((b0 && b1) && b2) && g1) && g2) = true → v = .pointer (some ⟨w00.heap.size, 2, none⟩)
  | 31 => ((((b0 && b1) && b2) && g1) && g2) = true → v = .slice C p.C.length cC
  | 32 => ((((b0 && b1) && b2) && g1) && g2) = true → v = .pointer (some ⟨(w00.heap.size + 1), 4, none⟩)
  | 33 => ((((b0 && b1) && b2) && g1) && g2) = true → v = .slice X s.X.length cX
  | 34 => ((((b0 && b1) && b2) && g1) && g2) = true → IsQ w (Old w) v zc
  | 35 => ((((b0 && b1) && b2) && g1) && g2) = true → v = .pointer (some ⟨(w00.heap.size + 1), 1, none⟩)
  | 36 => ((((b0 && b1) && b2) && g1) && g2) = true → v = .agg #[.bool s.val.neg, .slice P s.val.num.length cP, .slice Q s.val.den.length cQ]
  | 37 => ((((b0 && b1) && b2) && g1) && g2) = true → v = .int .i64 k1
  | 38 => ((((b0 && b1) && b2) && g1) && g2) = true → v = .bool o1
  | 39 => v = .bool (((((b0 && b1) && b2) && g1) && g2) && o1)
  | 40 => v = .bool (((((b0 && b1) && b2) && g1) && g2) && o1)
  | 41 => (((((b0 && b1) && b2) && g1) && g2) && o1) = true → v = .pointer (some ⟨w00.heap.size, 1, none⟩)
  | 42 => (((((b0 && b1) && b2) && g1) && g2) && o1) = true → v = .slice B p.B.length cB
  | 43 => (((((b0 && b1) && b2) && g1) && g2) && o1) = true → v = .pointer (some ⟨(w00.heap.size + 1), 5, none⟩)
  | 44 => (((((b0 && b1) && b2) && g1) && g2) && o1) = true → v = .slice D s.D.length cD
  | 45 => (((((b0 && b1) && b2) && g1) && g2) && o1) = true → IsQ w (Old w) v zb
  | 46 => (((((b0 && b1) && b2) && g1) && g2) && o1) = true → v = .pointer (some ⟨(w00.heap.size + 1), 1, none⟩)
  | 47 => (((((b0 && b1) && b2) && g1) && g2) && o1) = true → v = .agg #[.bool s.val.neg, .slice P s.val.num.length cP, .slice Q s.val.den.length cQ]
  | 48 => (((((b0 && b1) && b2) && g1) && g2) && o1) = true → v = .int .i64 k2
  | 49 => (((((b0 && b1) && b2) && g1) && g2) && o1) = true → v = .bool o2
  | 50 => v = .bool ((((((b0 && b1) && b2) && g1) && g2) && o1) && o2)
  | 51 => v = .bool ((((((b0 && b1) && b2) && g1) && g2) && o1) && o2)
  | _ => True
theorem opt11_stb (w00 : World) (p : Prog) (s : Sol) (A : Option Addr) (cA : Nat) (B : Option Addr) (cB : Nat) (C : Option Addr) (cC : Nat) (P : Option Addr) (cP : Nat) (Q : Option Addr) (cQ : Nat) (X : Option Addr) (cX : Nat) (D : Option Addr) (cD : Nat) (R : Option Addr) (cR : Nat) (b0 b1 b2 g1 g2 o1 o2 : Bool) (k1 k2 : Int) (q : ProgQ) (zc zb : Rat) : ∀ (i : Nat) (v : Value) (w w' : World), Opt11 w00 p s A cA B cB C cC P cP Q cQ X cX D cD R cR b0 b1 b2 g1 g2 o1 o2 k1 k2 q zc zb i v w → Below w.heap.size w w' → Opt11 w00 p s A cA B cB C cC P cP Q cQ X cX D cD R cR b0 b1 b2 g1 g2 o1 o2 k1 k2 q zc zb i v w' := fun i v w w' h hb => match i, h with
  | 0, h => h
  | 1, h => h
  | 2, h => h
  | 3, h => h
  | 4, h => h
  | 5, h => h
  | 6, h => h
  | 7, h => h
  | 8, h => h
  | 9, h => h
  | 10, h => h
  | 11, h => h
  | 12, h => h
  | 13, h => h
  | 14, h => h
  | 15, h => h
  | 16, h => h
  | 17, h => h
  | 18, h => h
  | 19, h => h
  | 20, h => h
  | 21, h => h
  | 22, h => h
  | 23, h => h
  | 24, h => fun hc => IsP.stb.next (h hc) hb
  | 25, h => h
  | 26, h => h
  | 27, h => h
  | 28, h => h
  | 29, h => h
  | 30, h => h
  | 31, h => h
  | 32, h => h
  | 33, h => h
  | 34, h => fun hc => IsQ.stb.next (h hc) hb
  | 35, h => h
  | 36, h => h
  | 37, h => h
  | 38, h => h
  | 39, h => h
  | 40, h => h
  | 41, h => h
  | 42, h => h
  | 43, h => h
  | 44, h => h
  | 45, h => fun hc => IsQ.stb.next (h hc) hb
  | 46, h => h
  | 47, h => h
  | 48, h => h
  | 49, h => h
  | 50, h => h
  | 51, h => h
  | _ + 52, _ => trivial
set_option maxRecDepth 100000 in
set_option maxHeartbeats 8000000 in
theorem raccepts_opt_of {w : World} {vp vs : Value} {p : Prog} {s : Sol} {b0 b1 b2 g1 g2 o1 o2 : Bool} {k1 k2 : Int} {q : ProgQ} {zc zb : Rat} (hp : IsP w (Old w) vp p) (hs : IsSol w (Old w) vs s) (hval : chkQ s.val = 0) (hn40 : p.C.length ≤ 40) (hm40 : p.B.length ≤ 40) (hst : s.st = 1)
    (hb0 : b0 = decide (s.R.length = 0)) (ho1 : o1 = decide (k1 = 0)) (ho2 : o2 = decide (k2 = 0))
    (f1 : ∀ v, IsV w (Old w) v s.X → ∀ W, Below w.heap.size w W → Calls Tryz.prog 111 #[v, .int .i64 (p.C.length : Nat)] W fun e w' => e = .returned (.bool b1) ∧ Below W.heap.size W w')
    (f2 : ∀ v, IsV w (Old w) v s.D → ∀ W, Below w.heap.size w W → Calls Tryz.prog 111 #[v, .int .i64 (p.B.length : Nat)] W fun e w' => e = .returned (.bool b2) ∧ Below W.heap.size W w')
    (f3 : ((b0 && b1) && b2) = true → ∀ vx, IsV w (Old w) vx s.X → ∀ W, Below w.heap.size w W → Calls Tryz.prog 77 #[vp, vx] W fun e w' => e = .returned (.bool g1) ∧ Below W.heap.size W w')
    (f4 : ((b0 && b1) && b2) = true → ∀ W, Below w.heap.size w W → Calls Tryz.prog 68 #[vp] W fun e w' => (∃ v, e = .returned v ∧ IsP w' (Old w') v (rawP (zca q))) ∧ Below W.heap.size W w')
    (f5 : ((b0 && b1) && b2) = true → ∀ vx, IsV w (Old w) vx s.D → ∀ W v, Below w.heap.size w W → IsP W (Old W) v (rawP (zca q)) → Calls Tryz.prog 77 #[v, vx] W fun e w' => e = .returned (.bool g2) ∧ Below W.heap.size W w')
    (f6 : ((b0 && b1) && b2) = true → ∀ va vb, IsV w (Old w) va p.C → IsV w (Old w) vb s.X → ∀ W, Below w.heap.size w W → Calls Tryz.prog 62 #[va, vb] W (RetQ W zc))
    (f7 : ((b0 && b1) && b2) = true → ∀ vv, IsR w (Old w) vv s.val → ∀ W v, Below w.heap.size w W → IsQ W (Old W) v zc → Calls Tryz.prog 112 #[v, vv] W fun e w' => e = .returned (.int .i64 k1) ∧ Below W.heap.size W w')
    (f8 : ((b0 && b1) && b2) = true → ∀ va vb, IsV w (Old w) va p.B → IsV w (Old w) vb s.D → ∀ W, Below w.heap.size w W → Calls Tryz.prog 62 #[va, vb] W (RetQ W zb))
    (f9 : ((b0 && b1) && b2) = true → ∀ vv, IsR w (Old w) vv s.val → ∀ W v, Below w.heap.size w W → IsQ W (Old W) v zb → Calls Tryz.prog 112 #[v, vv] W fun e w' => e = .returned (.int .i64 k2) ∧ Below W.heap.size W w') :
    Calls Tryz.prog 55 #[vp, vs] w fun e w' => e = .returned (.bool ((((((b0 && b1) && b2) && g1) && g2) && o1) && o2)) ∧ Below w.heap.size w w' := by
  have HV := Lib.hid hval
  clear hval
  have HB0' := Lib.hid hb0
  have HO1 := Lib.hid ho1
  have HO2 := Lib.hid ho2
  have F1' := Lib.hid f1
  have F2' := Lib.hid f2
  have F3' := Lib.hid f3
  have F4 := Lib.hid f4
  have F5' := Lib.hid f5
  have F6' := Lib.hid f6
  have F7' := Lib.hid f7
  have F8' := Lib.hid f8
  have F9' := Lib.hid f9
  clear hb0 ho1 ho2 f1 f2 f3 f4 f5 f6 f7 f8 f9
  have hps : ∃ A cA B cB C cC P cP Q cQ X cX D cD R cR, vp = .agg #[.slice A p.A.length cA, .slice B p.B.length cB, .slice C p.C.length cC] ∧ vs = .agg #[.int .i64 s.st, .bool s.val.neg, .slice P s.val.num.length cP, .slice Q s.val.den.length cQ, .slice X s.X.length cX, .slice D s.D.length cD, .slice R s.R.length cR] ∧ IsPS w (Old w) (.agg #[.slice A p.A.length cA, .slice B p.B.length cB, .slice C p.C.length cC, .int .i64 s.st, .bool s.val.neg, .slice P s.val.num.length cP, .slice Q s.val.den.length cQ, .slice X s.X.length cX, .slice D s.D.length cD, .slice R s.R.length cR]) p s := by
    obtain ⟨A, cA, B, cB, C, cC, rfl, h1, h2, h3⟩ := hp
    obtain ⟨P, cP, Q, cQ, X, cX, D, cD, R, cR, rfl, h4, h5, h6, h7⟩ := hs
    exact ⟨A, cA, B, cB, C, cC, P, cP, Q, cQ, X, cX, D, cD, R, cR, rfl, rfl, A, cA, B, cB, C, cC, P, cP, Q, cQ, X, cX, D, cD, R, cR, rfl, h1, h2, h3, h4, h5, h6, h7⟩
  have HP := Lib.hid hp
  have HVR : Hid (∀ P cP Q cQ X cX D cD R cR, vs = .agg #[.int .i64 s.st, .bool s.val.neg, .slice P s.val.num.length cP, .slice Q s.val.den.length cQ, .slice X s.X.length cX, .slice D s.D.length cD, .slice R s.R.length cR] → IsR w (Old w) (.agg #[.bool s.val.neg, .slice P s.val.num.length cP, .slice Q s.val.den.length cQ]) s.val) := by
    intro P cP Q cQ X cX D cD R cR e
    obtain ⟨P', cP', Q', cQ', X', cX', D', cD', R', cR', e', h4, _⟩ := hs
    rw [e] at e'
    cases e'
    exact h4
  clear hp hs
  obtain ⟨A, cA, B, cB, C, cC, P, cP, Q, cQ, X, cX, D, cD, R, cR, rfl, rfl, hv⟩ := hps
  have HR := Lib.hid (HVR.out _ _ _ _ _ _ _ _ _ _ rfl)
  have HPS := Lib.hid (isPS_parts hv)
  clear HVR hv
  rw [hst] at *
  obtain ⟨w0, hw0, hb0, rP, rS, Hz⟩ := zcl w #[.slice A p.A.length cA, .slice B p.B.length cB, .slice C p.C.length cC] #[.int .i64 1, .bool s.val.neg, .slice P s.val.num.length cP, .slice Q s.val.den.length cQ, .slice X s.X.length cX, .slice D s.D.length cD, .slice R s.R.length cR] 27 33
  have HB0 := Lib.hid hb0
  have RP := Lib.hid rP
  have RS := Lib.hid rS
  obtain ⟨p0, p1, p2⟩ := zad rP
  obtain ⟨s0, s1, s2, s3, s4, s5, s6⟩ := zba rS
  clear hb0 rP rS
  go_enter Tryz.func55, Tryz.ntmps55
  go_wp2_with fail
  clear hw0
  go_region
  have hd := zac w0
  obtain ⟨wd, hwd⟩ : ∃ x, x = w0.drew := ⟨_, rfl⟩
  rw [← hwd] at hd ⊢
  have HBd := Lib.hid (zaa HB0.out hd)
  have RPd := Lib.hid (RP.out.next hd)
  have RSd := Lib.hid (RS.out.next hd)
  have hzd : w0.heap.size ≤ wd.heap.size := hd.size
  clear p0 p1 p2 s0 s1 s2 s3 s4 s5 s6 hd hwd RP RS HB0
  obtain ⟨p0, p1, p2⟩ := zad RPd.out
  obtain ⟨s0, s1, s2, s3, s4, s5, s6⟩ := zba RSd.out
  go_wp2_with fail
  refine (rcheck_q (IsR.stb.to HR.out (zag HBd.out))).mono ?_
  rw [HV.out]
  rintro e w1 ⟨rfl, hb⟩
  obtain ⟨z0, hz0⟩ : ∃ z : Rat, z = 0 := ⟨_, rfl⟩
  have HZ0 := Lib.hid hz0
  have HW : Hid (∀ W : World, Calls Tryz.prog 110 #[.int .i64 0] W (RetQ W z0)) := fun W => by rw [HZ0.out]; exact whole0_q W
  clear hz0
  obtain ⟨wE, hwE, hbE, rE, HzE⟩ := zbm w1 #[.slice none 0 0, .slice none 0 0, .slice none 0 0] 27
  obtain ⟨w2, hw2, hb2, r2, _, hz2⟩ := finP (wB := wd) (w5 := wE) (X := w1) (g := w1.heap.size) (a := .slice A p.A.length cA) (b := .slice none 0 0) (c := .slice C p.C.length cC) (zaa hb hbE) hb (by rw [hwE]; exact Below.refl _ _) rfl
  have p0 := zab hb p0
  have p1 := zab hb p1
  have p2 := zab hb p2
  have s0 := zab hb s0
  have p0 := zab hbE p0
  have p1 := zab hbE p1
  have p2 := zab hbE p2
  obtain ⟨d0, d1, d2⟩ := zad rE
  obtain ⟨f0, f1, f2⟩ := zax rE
  go_wp2_with fail
  obtain ⟨g, hg⟩ : ∃ g, g = w1.heap.size := ⟨_, rfl⟩
  rw [← hg] at r2 hz2 ⊢
  have BH := Lib.hid hb2
  have RH := Lib.hid r2
  have GH : Hid (g < w2.heap.size) := r2.lt
  have GwH : Hid (wd.heap.size ≤ g) := hz2.out.1
  clear hw2 hwE hb hbE rE hb2 r2 hz2 hg p0 p1 p2 s0 s1 s2 s3 s4 s5 s6 d0 d1 d2 f0 f1 f2 HzE
  go_loopw [8] (fun i wr => ∃ (j : Nat) (S : Nat → Prop) (va : Value), j ≤ p.B.length ∧ i = .int .i64 (j : Int) ∧ Below wd.heap.size wd wr ∧ w2.grownBy wr (some g) ∧ Row wr g 27 [.slice A p.A.length cA, va, .slice C p.C.length cC] ∧ OwnS 3 31 IsR wr w2.heap.size S va (rawV (zbj j)) ∧ Hid (∀ b, S b → w2.heap.size ≤ b)) (fun i _ => p.B.length - (intOf i).toNat)
  case atStart => exact ⟨0, fun _ => False, _, Nat.zero_le _, rfl, BH.out, zdr (Below.refl _ _), RH.out, by simpa [rawV, zbj] using (OwnS.nil (fun b h => False.elim h) : OwnS 3 31 IsR w2 w2.heap.size (fun _ => False) _ _), fun b h => False.elim h⟩
  case round =>
    obtain ⟨j, S, va, hj, rfl, hbw, hgr, hrow, hown, hS⟩ := hrel
    have Hbw := Lib.hid hbw
    have Hgr := Lib.hid hgr
    have HRw := Lib.hid hrow
    have HS1 := Lib.hid hS.out
    have Hown := Lib.hid hown
    have hszE := hgr.size
    have hgb : g < w2.heap.size := GH.out
    have hgw : wd.heap.size ≤ g := GwH.out
    obtain ⟨AzH, czH, hva⟩ := hown.slice
    rw [zay, zbk] at hva
    subst hva
    obtain ⟨g0, g1, g2⟩ := zad hrow
    clear hS hgr hrow hown hbw
    rcases Nat.lt_or_ge j p.B.length with hlt | hge
    · go_wp2_with fail
      go_region_law (first
          | ((rw [if_pos (by rfl)]); go_simp; go_at_call 110; (with_reducible refine Calls.mono (HW.out _) ?_); rintro e w3 ⟨⟨v3, rfl, hv3⟩, hb3⟩; obtain ⟨s3, P3, k3, O3, l3, rfl, _, _, _⟩ := zan hv3; clear g0 g1 g2; have hB4 : Below wr.heap.size wr w3 := (by (repeat (first | exact Below.refl _ _ | assumption | refine zae ?_ _ | refine zah ?_ | refine zaf ?_ ?_ _ _ _ | refine zaj ?_ (by omega) | refine zaa ?_ (by assumption))); (first | done | fail)); obtain ⟨g0, g1, g2⟩ := zad (Row.next HRw.out hB4 : Row w3 _ _ _); have hs4 := hB4.size; have HO := Lib.hid (OwnS.step IsR.stb (T := fun b => S b ∨ (wr.heap.size ≤ b ∧ b < w3.heap.size)) Hown.out hB4 (fun b h => .inl h) (fun b h => h)); have HE := Lib.hid (IsR.stb.to (show IsR w3 (New wr.heap.size w3) _ (raw z0) from hv3) (zat (T := fun b => S b ∨ (wr.heap.size ≤ b ∧ b < w3.heap.size)) fun b h => .inr h)); have hb4w : w2.heap.size ≤ w3.heap.size := (by omega); have R4 := Lib.hid (Row.next HRw.out hB4); have ga0 := zab (zas w3 (.cells #[.bool s3, .slice P3 (lim z0.num.natAbs).length k3, .slice O3 (lim z0.den).length l3] 31)) g1; (try dsimp only))
          | (refine zfd elR rfl _ _ rfl IsR.stb rfl rfl rfl HO.out HE.out (by rfl) (by intro u hu; simp [Value.cells] at hu; rcases hu with rfl | rfl | rfl <;> rfl) (by rw [zay, zbk]; omega) hb4w ?_; intro v5 w5 hown5 hb5 hz5; obtain ⟨A5, c5, hA5⟩ := hown5.slice; rw [List.length_append, List.length_singleton, zay, zbk] at hA5; subst hA5; have R5 := Row.below R4.out hb5 hgb; obtain ⟨h0, h1, h2⟩ := zad R5; obtain ⟨y0, y1, y2⟩ := zax R5))
      all_goals
        go_wp2_with fail
        go_roundw
        case rel =>
          have hS7 : ∀ b, (S b ∨ (wr.heap.size ≤ b ∧ b < w3.heap.size)) → w2.heap.size ≤ b := fun b hb => by rcases hb with hb | hb; exact HS1.out b hb; omega
          refine ⟨j + 1, fun b => S b ∨ (wr.heap.size ≤ b ∧ b < w3.heap.size), _, by omega, by go_num, (zaa Hbw.out hB4).trans ((hb5.mono (by omega)).setCell (p := ⟨g, 1, none⟩) (by show _ ≤ g; omega) _), (zee Hgr.out ((hB4.mono hszE).trans hb5)).trans (zcn _ g 1 _), R5.set_ 1 _, ?_, hS7⟩
          refine OwnS.stepG IsR.stb ?_ (zcn _ g 1 _) hgb (fun b h => by have := hS7 b h; omega)
          have e : rawV (zbj (j + 1)) = rawV (zbj j) ++ [raw z0] := by rw [zfb, rawV_snoc, HZ0.out]
          rw [e]
          exact hown5
        case measure => simp [intOf]; omega
    · have ej : j = p.B.length := by omega
      clear g0 g1 g2
      rw [ej] at Hown HRw
      have HZH : Hid (IsV wr (fun b => w2.heap.size ≤ b ∧ b < wr.heap.size) (.slice AzH p.B.length czH) (rawV (zbj p.B.length))) := by
        have h := Hown.out
        exact OwnS.isS IsR.stb h (fun b hb => by obtain ⟨_, _, _, _, h4⟩ := h; exact ⟨HS1.out b hb, (h4 b hb).1⟩) (fun b h1 h2 => ⟨h1, h2⟩)
      clear Hown HS1
      obtain ⟨_, hPB, hPC, hPV, hPX, hPD, _⟩ := HPS.out
      have F1 : Hid _ := F1'.out _ hPX
      have F2 : Hid _ := F2'.out _ hPD
      have F3 : Hid _ := fun h => F3'.out h _ hPX
      have F5 : Hid _ := fun h => F5'.out h _ hPD
      have F6 : Hid _ := fun h => F6'.out h _ _ hPC hPX
      have F7 : Hid _ := fun h => F7'.out h _ hPV
      have F8 : Hid _ := fun h => F8'.out h _ _ hPB hPD
      have F9 : Hid _ := fun h => F9'.out h _ hPV
      have RPr := Lib.hid (RPd.out.next Hbw.out)
      have RSr := Lib.hid (RSd.out.next Hbw.out)
      have BR := Lib.hid (zaa HBd.out Hbw.out)
      clear F1' F2' F3' F5' F6' F7' F8' F9' hPB hPC hPV hPX hPD HPS HR HP RPd RSd Hbw HBd Hgr HRw BH RH
      obtain ⟨p0, p1, p2⟩ := zad RPr.out
      obtain ⟨s0, s1, s2, s3, s4, s5, s6⟩ := zba RSr.out
      go_wp2_with fail
      clear p0 p1 p2 s0 s1 s2 s3 s4 s5 s6
      have e1 : (((s.R.length : Nat) : Int) == 0) = b0 := by rw [HB0'.out]; exact len_eq0
      have e2 : (k1 == 0) = o1 := by rw [HO1.out]; exact int_eq0
      have e3 : (k2 == 0) = o2 := by rw [HO2.out]; exact int_eq0
      refine zey fun ops hops => ?_
      have oq0 := zaw (j := 0) hops rfl
      have oq1 := zaw (j := 1) hops rfl
      have oq2 := zaw (j := 2) hops rfl
      have oq3 := zaw (j := 3) hops rfl
      have oq4 := zaw (j := 4) hops rfl
      have oq5 := zaw (j := 5) hops rfl
      have oq6 := zaw (j := 6) hops rfl
      have oq7 := zaw (j := 7) hops rfl
      have oq8 := zaw (j := 8) hops rfl
      have oq9 := zaw (j := 9) hops rfl
      have oq10 := zaw (j := 10) hops rfl
      have oq11 := zaw (j := 11) hops rfl
      have oq12 := zaw (j := 12) hops rfl
      have oq13 := zaw (j := 13) hops rfl
      have oq14 := zaw (j := 14) hops rfl
      have oq15 := zaw (j := 15) hops rfl
      have oq16 := zaw (j := 16) hops rfl
      have oq17 := zaw (j := 17) hops rfl
      have oq18 := zaw (j := 18) hops rfl
      have oq19 := zaw (j := 19) hops rfl
      have oq20 := zaw (j := 20) hops rfl
      have oq21 := zaw (j := 21) hops rfl
      have oq22 := zaw (j := 22) hops rfl
      have oq23 := zaw (j := 23) hops rfl
      have oq24 := zaw (j := 24) hops rfl
      have oq25 := zaw (j := 25) hops rfl
      have oq26 := zaw (j := 26) hops rfl
      have oq27 := zaw (j := 27) hops rfl
      have oq28 := zaw (j := 28) hops rfl
      have oq29 := zaw (j := 29) hops rfl
      have oq30 := zaw (j := 30) hops rfl
      have oq31 := zaw (j := 31) hops rfl
      have oq32 := zaw (j := 32) hops rfl
      have oq33 := zaw (j := 33) hops rfl
      have oq34 := zaw (j := 34) hops rfl
      have oq35 := zaw (j := 35) hops rfl
      have oq36 := zaw (j := 36) hops rfl
      have oq37 := zaw (j := 37) hops rfl
      have oq38 := zaw (j := 38) hops rfl
      have oq39 := zaw (j := 39) hops rfl
      have oq40 := zaw (j := 40) hops rfl
      have oq41 := zaw (j := 41) hops rfl
      have oq42 := zaw (j := 42) hops rfl
      have oq43 := zaw (j := 43) hops rfl
      have oq44 := zaw (j := 44) hops rfl
      have oq45 := zaw (j := 45) hops rfl
      have oq46 := zaw (j := 46) hops rfl
      have oq47 := zaw (j := 47) hops rfl
      have oq48 := zaw (j := 48) hops rfl
      have oq49 := zaw (j := 49) hops rfl
      have oq50 := zaw (j := 50) hops rfl
      have oq51 := zaw (j := 51) hops rfl
      have fr := fun t h => slot_abs hops t h
      refine zeh (Opt11 w p s A cA B cB C cC P cP Q cQ X cX D cD R cR b0 b1 b2 g1 g2 o1 o2 k1 k2 q zc zb) (by kernel_rfl) (opt11_stb w p s A cA B cB C cC P cP Q cQ X cX D cD R cR b0 b1 b2 g1 g2 o1 o2 k1 k2 q zc zb) (by rw [hops]; kernel_rfl) ?step ?fin
      case step =>
        intro i o hi a W hsz hdf hbw hfree hdep
        obtain ⟨T, df⟩ := a
        replace hsz : T.size = 189 := hsz
        obtain rfl : df = [] := hdf
        match i, hi with
        | 0, hi =>
          obtain rfl := Option.some.inj (oq0.symm.trans hi)
          have e3 : T[3]? = some (.pointer (some ⟨(w.heap.size + 1), 0, none⟩)) := hfree 3 (fr 3 (by kernel_rfl))
          refine zao rfl ?_
          clear hdep hfree hsz hops fr oq0 oq1 oq2 oq3 oq4 oq5 oq6 oq7 oq8 oq9 oq10 oq11 oq12 oq13 oq14 oq15 oq16 oq17 oq18 oq19 oq20 oq21 oq22 oq23 oq24 oq25 oq26 oq27 oq28 oq29 oq30 oq31 oq32 oq33 oq34 oq35 oq36 oq37 oq38 oq39 oq40 oq41 oq42 oq43 oq44 oq45 oq46 oq47 oq48 oq49 oq50 oq51
          refine zai fun K hK => ?_
          go_simp
          exact hK (.pointer (some ⟨(w.heap.size + 1), 6, none⟩)) _ (Below.refl _ _) (rfl)
        | 1, hi =>
          obtain rfl := Option.some.inj (oq1.symm.trans hi)
          have e41 : T[41]? = some (.pointer (some ⟨(w.heap.size + 1), 6, none⟩)) := zal (by omega) (hdep 0 _ 41 (odt (by kernel_rfl)) oq0 rfl)
          refine zao rfl ?_
          clear hdep hfree hsz hops fr oq0 oq1 oq2 oq3 oq4 oq5 oq6 oq7 oq8 oq9 oq10 oq11 oq12 oq13 oq14 oq15 oq16 oq17 oq18 oq19 oq20 oq21 oq22 oq23 oq24 oq25 oq26 oq27 oq28 oq29 oq30 oq31 oq32 oq33 oq34 oq35 oq36 oq37 oq38 oq39 oq40 oq41 oq42 oq43 oq44 oq45 oq46 oq47 oq48 oq49 oq50 oq51
          obtain ⟨c0, c1, c2, c3, c4, c5, c6⟩ := zba (RSr.out.next hbw)
          refine zai fun K hK => ?_
          go_simp
          exact hK (.slice R s.R.length cR) _ (Below.refl _ _) (rfl)
        | 2, hi =>
          obtain rfl := Option.some.inj (oq2.symm.trans hi)
          have e42 : T[42]? = some (.slice R s.R.length cR) := zal (by omega) (hdep 1 _ 42 (odt (by kernel_rfl)) oq1 rfl)
          refine zao rfl ?_
          clear hdep hfree hsz hops fr oq0 oq1 oq2 oq3 oq4 oq5 oq6 oq7 oq8 oq9 oq10 oq11 oq12 oq13 oq14 oq15 oq16 oq17 oq18 oq19 oq20 oq21 oq22 oq23 oq24 oq25 oq26 oq27 oq28 oq29 oq30 oq31 oq32 oq33 oq34 oq35 oq36 oq37 oq38 oq39 oq40 oq41 oq42 oq43 oq44 oq45 oq46 oq47 oq48 oq49 oq50 oq51
          refine zai fun K hK => ?_
          go_simp
          exact hK (.int .i64 (s.R.length : Nat)) _ (Below.refl _ _) (rfl)
        | 3, hi =>
          obtain rfl := Option.some.inj (oq3.symm.trans hi)
          have e43 : T[43]? = some (.int .i64 (s.R.length : Nat)) := zal (by omega) (hdep 2 _ 43 (odt (by kernel_rfl)) oq2 rfl)
          refine zao rfl ?_
          clear hdep hfree hsz hops fr oq0 oq1 oq2 oq3 oq4 oq5 oq6 oq7 oq8 oq9 oq10 oq11 oq12 oq13 oq14 oq15 oq16 oq17 oq18 oq19 oq20 oq21 oq22 oq23 oq24 oq25 oq26 oq27 oq28 oq29 oq30 oq31 oq32 oq33 oq34 oq35 oq36 oq37 oq38 oq39 oq40 oq41 oq42 oq43 oq44 oq45 oq46 oq47 oq48 oq49 oq50 oq51
          refine zai fun K hK => ?_
          go_simp
          exact hK (.bool b0) _ (Below.refl _ _) (rfl)
        | 4, hi =>
          obtain rfl := Option.some.inj (oq4.symm.trans hi)
          have e44 : T[44]? = some (.bool b0) := zal (by omega) (hdep 3 _ 44 (odt (by kernel_rfl)) oq3 rfl)
          refine zao rfl ?_
          clear hdep hfree hsz hops fr oq0 oq1 oq2 oq3 oq4 oq5 oq6 oq7 oq8 oq9 oq10 oq11 oq12 oq13 oq14 oq15 oq16 oq17 oq18 oq19 oq20 oq21 oq22 oq23 oq24 oq25 oq26 oq27 oq28 oq29 oq30 oq31 oq32 oq33 oq34 oq35 oq36 oq37 oq38 oq39 oq40 oq41 oq42 oq43 oq44 oq45 oq46 oq47 oq48 oq49 oq50 oq51
          refine zai fun K hK => ?_
          go_simp
          exact hK (.bool b0) _ (Below.refl _ _) (rfl)
        | 5, hi =>
          obtain rfl := Option.some.inj (oq5.symm.trans hi)
          have e3 : T[3]? = some (.pointer (some ⟨(w.heap.size + 1), 0, none⟩)) := hfree 3 (fr 3 (by kernel_rfl))
          refine zap (T := T) (j := 4) rfl oq4 rfl (hdep 4 _ 45 (odt (by kernel_rfl)) oq4 rfl) (by omega) (fun hC e45 => ?_) (fun hC h => by first | exact absurd hC (by decide) | (rw [hC] at h; cases h))
          clear hdep hfree hsz hops fr oq0 oq1 oq2 oq3 oq4 oq5 oq6 oq7 oq8 oq9 oq10 oq11 oq12 oq13 oq14 oq15 oq16 oq17 oq18 oq19 oq20 oq21 oq22 oq23 oq24 oq25 oq26 oq27 oq28 oq29 oq30 oq31 oq32 oq33 oq34 oq35 oq36 oq37 oq38 oq39 oq40 oq41 oq42 oq43 oq44 oq45 oq46 oq47 oq48 oq49 oq50 oq51
          refine zai fun K hK => ?_
          go_simp
          exact hK (.pointer (some ⟨(w.heap.size + 1), 4, none⟩)) _ (Below.refl _ _) (fun _ => rfl)
        | 6, hi =>
          obtain rfl := Option.some.inj (oq6.symm.trans hi)
          refine zap (T := T) (j := 4) rfl oq4 rfl (hdep 4 _ 45 (odt (by kernel_rfl)) oq4 rfl) (by omega) (fun hC e45 => ?_) (fun hC h => by first | exact absurd hC (by decide) | (rw [hC] at h; cases h))
          have e46 : T[46]? = some (.pointer (some ⟨(w.heap.size + 1), 4, none⟩)) := zal (by omega) (hdep 5 _ 46 (odt (by kernel_rfl)) oq5 rfl hC)
          clear hdep hfree hsz hops fr oq0 oq1 oq2 oq3 oq4 oq5 oq6 oq7 oq8 oq9 oq10 oq11 oq12 oq13 oq14 oq15 oq16 oq17 oq18 oq19 oq20 oq21 oq22 oq23 oq24 oq25 oq26 oq27 oq28 oq29 oq30 oq31 oq32 oq33 oq34 oq35 oq36 oq37 oq38 oq39 oq40 oq41 oq42 oq43 oq44 oq45 oq46 oq47 oq48 oq49 oq50 oq51
          obtain ⟨c0, c1, c2, c3, c4, c5, c6⟩ := zba (RSr.out.next hbw)
          refine zai fun K hK => ?_
          go_simp
          exact hK (.slice X s.X.length cX) _ (Below.refl _ _) (fun _ => rfl)
        | 7, hi =>
          obtain rfl := Option.some.inj (oq7.symm.trans hi)
          have e5 : T[5]? = some (.int .i64 (p.C.length : Nat)) := hfree 5 (fr 5 (by kernel_rfl))
          refine zap (T := T) (j := 4) rfl oq4 rfl (hdep 4 _ 45 (odt (by kernel_rfl)) oq4 rfl) (by omega) (fun hC e45 => ?_) (fun hC h => by first | exact absurd hC (by decide) | (rw [hC] at h; cases h))
          clear hdep hfree hsz hops fr oq0 oq1 oq2 oq3 oq4 oq5 oq6 oq7 oq8 oq9 oq10 oq11 oq12 oq13 oq14 oq15 oq16 oq17 oq18 oq19 oq20 oq21 oq22 oq23 oq24 oq25 oq26 oq27 oq28 oq29 oq30 oq31 oq32 oq33 oq34 oq35 oq36 oq37 oq38 oq39 oq40 oq41 oq42 oq43 oq44 oq45 oq46 oq47 oq48 oq49 oq50 oq51
          refine zai fun K hK => ?_
          go_simp
          exact hK (.int .i64 (p.C.length : Nat)) _ (Below.refl _ _) (fun _ => rfl)
        | 8, hi =>
          obtain rfl := Option.some.inj (oq8.symm.trans hi)
          refine zap (T := T) (j := 4) rfl oq4 rfl (hdep 4 _ 45 (odt (by kernel_rfl)) oq4 rfl) (by omega) (fun hC e45 => ?_) (fun hC h => by first | exact absurd hC (by decide) | (rw [hC] at h; cases h))
          have e47 : T[47]? = some (.slice X s.X.length cX) := zal (by omega) (hdep 6 _ 47 (odt (by kernel_rfl)) oq6 rfl hC)
          have e48 : T[48]? = some (.int .i64 (p.C.length : Nat)) := zal (by omega) (hdep 7 _ 48 (odt (by kernel_rfl)) oq7 rfl hC)
          clear hdep hfree hsz hops fr oq0 oq1 oq2 oq3 oq4 oq5 oq6 oq7 oq8 oq9 oq10 oq11 oq12 oq13 oq14 oq15 oq16 oq17 oq18 oq19 oq20 oq21 oq22 oq23 oq24 oq25 oq26 oq27 oq28 oq29 oq30 oq31 oq32 oq33 oq34 oq35 oq36 oq37 oq38 oq39 oq40 oq41 oq42 oq43 oq44 oq45 oq46 oq47 oq48 oq49 oq50 oq51
          refine zai fun K hK => ?_
          go_simp
          refine (F1.out _ (zaa BR.out hbw)).mono ?_
          rintro e w' ⟨rfl, hb⟩
          exact hK _ w' hb (fun _ => rfl)
        | 9, hi =>
          obtain rfl := Option.some.inj (oq9.symm.trans hi)
          have e45 : T[45]? = some (.bool b0) := zal (by omega) (hdep 4 _ 45 (odt (by kernel_rfl)) oq4 rfl)
          have d49 : b0 = true → (T.getD 49 undef) = .bool b1 := hdep 8 _ 49 (odt (by kernel_rfl)) oq8 rfl
          refine zao rfl ?_
          obtain ⟨v49, e49, g49⟩ := zbz (T := T) (t := 49) (by omega)
          rw [g49] at d49
          clear g49
          rcases Bool.eq_false_or_eq_true (b0) with hC | hC
          · rw [hC] at e45
            have e := d49 hC
            subst e
            clear d49
            clear hdep hfree hsz hops fr oq0 oq1 oq2 oq3 oq4 oq5 oq6 oq7 oq8 oq9 oq10 oq11 oq12 oq13 oq14 oq15 oq16 oq17 oq18 oq19 oq20 oq21 oq22 oq23 oq24 oq25 oq26 oq27 oq28 oq29 oq30 oq31 oq32 oq33 oq34 oq35 oq36 oq37 oq38 oq39 oq40 oq41 oq42 oq43 oq44 oq45 oq46 oq47 oq48 oq49 oq50 oq51
            refine zai fun K hK => ?_
            go_simp
            refine hK (.bool b1) _ (Below.refl _ _) ?_
            show Value.bool _ = Value.bool _
            rw [hC]; rfl
          · rw [hC] at e45
            clear d49
            clear hdep hfree hsz hops fr oq0 oq1 oq2 oq3 oq4 oq5 oq6 oq7 oq8 oq9 oq10 oq11 oq12 oq13 oq14 oq15 oq16 oq17 oq18 oq19 oq20 oq21 oq22 oq23 oq24 oq25 oq26 oq27 oq28 oq29 oq30 oq31 oq32 oq33 oq34 oq35 oq36 oq37 oq38 oq39 oq40 oq41 oq42 oq43 oq44 oq45 oq46 oq47 oq48 oq49 oq50 oq51
            refine zai fun K hK => ?_
            go_simp
            refine hK (.bool false) _ (Below.refl _ _) ?_
            show Value.bool _ = Value.bool _
            rw [hC]; rfl
        | 10, hi =>
          obtain rfl := Option.some.inj (oq10.symm.trans hi)
          have e50 : T[50]? = some (.bool (b0 && b1)) := zal (by omega) (hdep 9 _ 50 (odt (by kernel_rfl)) oq9 rfl)
          refine zao rfl ?_
          clear hdep hfree hsz hops fr oq0 oq1 oq2 oq3 oq4 oq5 oq6 oq7 oq8 oq9 oq10 oq11 oq12 oq13 oq14 oq15 oq16 oq17 oq18 oq19 oq20 oq21 oq22 oq23 oq24 oq25 oq26 oq27 oq28 oq29 oq30 oq31 oq32 oq33 oq34 oq35 oq36 oq37 oq38 oq39 oq40 oq41 oq42 oq43 oq44 oq45 oq46 oq47 oq48 oq49 oq50 oq51
          refine zai fun K hK => ?_
          go_simp
          exact hK (.bool (b0 && b1)) _ (Below.refl _ _) (rfl)
        | 11, hi =>
          obtain rfl := Option.some.inj (oq11.symm.trans hi)
          have e3 : T[3]? = some (.pointer (some ⟨(w.heap.size + 1), 0, none⟩)) := hfree 3 (fr 3 (by kernel_rfl))
          refine zap (T := T) (j := 10) rfl oq10 rfl (hdep 10 _ 51 (odt (by kernel_rfl)) oq10 rfl) (by omega) (fun hC e51 => ?_) (fun hC h => by first | exact absurd hC (by decide) | (rw [hC] at h; cases h))
          clear hdep hfree hsz hops fr oq0 oq1 oq2 oq3 oq4 oq5 oq6 oq7 oq8 oq9 oq10 oq11 oq12 oq13 oq14 oq15 oq16 oq17 oq18 oq19 oq20 oq21 oq22 oq23 oq24 oq25 oq26 oq27 oq28 oq29 oq30 oq31 oq32 oq33 oq34 oq35 oq36 oq37 oq38 oq39 oq40 oq41 oq42 oq43 oq44 oq45 oq46 oq47 oq48 oq49 oq50 oq51
          refine zai fun K hK => ?_
          go_simp
          exact hK (.pointer (some ⟨(w.heap.size + 1), 5, none⟩)) _ (Below.refl _ _) (fun _ => rfl)
        | 12, hi =>
          obtain rfl := Option.some.inj (oq12.symm.trans hi)
          refine zap (T := T) (j := 10) rfl oq10 rfl (hdep 10 _ 51 (odt (by kernel_rfl)) oq10 rfl) (by omega) (fun hC e51 => ?_) (fun hC h => by first | exact absurd hC (by decide) | (rw [hC] at h; cases h))
          have e52 : T[52]? = some (.pointer (some ⟨(w.heap.size + 1), 5, none⟩)) := zal (by omega) (hdep 11 _ 52 (odt (by kernel_rfl)) oq11 rfl hC)
          clear hdep hfree hsz hops fr oq0 oq1 oq2 oq3 oq4 oq5 oq6 oq7 oq8 oq9 oq10 oq11 oq12 oq13 oq14 oq15 oq16 oq17 oq18 oq19 oq20 oq21 oq22 oq23 oq24 oq25 oq26 oq27 oq28 oq29 oq30 oq31 oq32 oq33 oq34 oq35 oq36 oq37 oq38 oq39 oq40 oq41 oq42 oq43 oq44 oq45 oq46 oq47 oq48 oq49 oq50 oq51
          obtain ⟨c0, c1, c2, c3, c4, c5, c6⟩ := zba (RSr.out.next hbw)
          refine zai fun K hK => ?_
          go_simp
          exact hK (.slice D s.D.length cD) _ (Below.refl _ _) (fun _ => rfl)
        | 13, hi =>
          obtain rfl := Option.some.inj (oq13.symm.trans hi)
          have e6 : T[6]? = some (.int .i64 (p.B.length : Nat)) := hfree 6 (fr 6 (by kernel_rfl))
          refine zap (T := T) (j := 10) rfl oq10 rfl (hdep 10 _ 51 (odt (by kernel_rfl)) oq10 rfl) (by omega) (fun hC e51 => ?_) (fun hC h => by first | exact absurd hC (by decide) | (rw [hC] at h; cases h))
          clear hdep hfree hsz hops fr oq0 oq1 oq2 oq3 oq4 oq5 oq6 oq7 oq8 oq9 oq10 oq11 oq12 oq13 oq14 oq15 oq16 oq17 oq18 oq19 oq20 oq21 oq22 oq23 oq24 oq25 oq26 oq27 oq28 oq29 oq30 oq31 oq32 oq33 oq34 oq35 oq36 oq37 oq38 oq39 oq40 oq41 oq42 oq43 oq44 oq45 oq46 oq47 oq48 oq49 oq50 oq51
          refine zai fun K hK => ?_
          go_simp
          exact hK (.int .i64 (p.B.length : Nat)) _ (Below.refl _ _) (fun _ => rfl)
        | 14, hi =>
          obtain rfl := Option.some.inj (oq14.symm.trans hi)
          refine zap (T := T) (j := 10) rfl oq10 rfl (hdep 10 _ 51 (odt (by kernel_rfl)) oq10 rfl) (by omega) (fun hC e51 => ?_) (fun hC h => by first | exact absurd hC (by decide) | (rw [hC] at h; cases h))
          have e53 : T[53]? = some (.slice D s.D.length cD) := zal (by omega) (hdep 12 _ 53 (odt (by kernel_rfl)) oq12 rfl hC)
          have e54 : T[54]? = some (.int .i64 (p.B.length : Nat)) := zal (by omega) (hdep 13 _ 54 (odt (by kernel_rfl)) oq13 rfl hC)
          clear hdep hfree hsz hops fr oq0 oq1 oq2 oq3 oq4 oq5 oq6 oq7 oq8 oq9 oq10 oq11 oq12 oq13 oq14 oq15 oq16 oq17 oq18 oq19 oq20 oq21 oq22 oq23 oq24 oq25 oq26 oq27 oq28 oq29 oq30 oq31 oq32 oq33 oq34 oq35 oq36 oq37 oq38 oq39 oq40 oq41 oq42 oq43 oq44 oq45 oq46 oq47 oq48 oq49 oq50 oq51
          refine zai fun K hK => ?_
          go_simp
          refine (F2.out _ (zaa BR.out hbw)).mono ?_
          rintro e w' ⟨rfl, hb⟩
          exact hK _ w' hb (fun _ => rfl)
        | 15, hi =>
          obtain rfl := Option.some.inj (oq15.symm.trans hi)
          have e51 : T[51]? = some (.bool (b0 && b1)) := zal (by omega) (hdep 10 _ 51 (odt (by kernel_rfl)) oq10 rfl)
          have d55 : (b0 && b1) = true → (T.getD 55 undef) = .bool b2 := hdep 14 _ 55 (odt (by kernel_rfl)) oq14 rfl
          refine zao rfl ?_
          obtain ⟨v55, e55, g55⟩ := zbz (T := T) (t := 55) (by omega)
          rw [g55] at d55
          clear g55
          rcases Bool.eq_false_or_eq_true ((b0 && b1)) with hC | hC
          · rw [hC] at e51
            have e := d55 hC
            subst e
            clear d55
            clear hdep hfree hsz hops fr oq0 oq1 oq2 oq3 oq4 oq5 oq6 oq7 oq8 oq9 oq10 oq11 oq12 oq13 oq14 oq15 oq16 oq17 oq18 oq19 oq20 oq21 oq22 oq23 oq24 oq25 oq26 oq27 oq28 oq29 oq30 oq31 oq32 oq33 oq34 oq35 oq36 oq37 oq38 oq39 oq40 oq41 oq42 oq43 oq44 oq45 oq46 oq47 oq48 oq49 oq50 oq51
            refine zai fun K hK => ?_
            go_simp
            refine hK (.bool b2) _ (Below.refl _ _) ?_
            show Value.bool _ = Value.bool _
            rw [hC]; rfl
          · rw [hC] at e51
            clear d55
            clear hdep hfree hsz hops fr oq0 oq1 oq2 oq3 oq4 oq5 oq6 oq7 oq8 oq9 oq10 oq11 oq12 oq13 oq14 oq15 oq16 oq17 oq18 oq19 oq20 oq21 oq22 oq23 oq24 oq25 oq26 oq27 oq28 oq29 oq30 oq31 oq32 oq33 oq34 oq35 oq36 oq37 oq38 oq39 oq40 oq41 oq42 oq43 oq44 oq45 oq46 oq47 oq48 oq49 oq50 oq51
            refine zai fun K hK => ?_
            go_simp
            refine hK (.bool false) _ (Below.refl _ _) ?_
            show Value.bool _ = Value.bool _
            rw [hC]; rfl
        | 16, hi =>
          obtain rfl := Option.some.inj (oq16.symm.trans hi)
          have e56 : T[56]? = some (.bool ((b0 && b1) && b2)) := zal (by omega) (hdep 15 _ 56 (odt (by kernel_rfl)) oq15 rfl)
          refine zao rfl ?_
          clear hdep hfree hsz hops fr oq0 oq1 oq2 oq3 oq4 oq5 oq6 oq7 oq8 oq9 oq10 oq11 oq12 oq13 oq14 oq15 oq16 oq17 oq18 oq19 oq20 oq21 oq22 oq23 oq24 oq25 oq26 oq27 oq28 oq29 oq30 oq31 oq32 oq33 oq34 oq35 oq36 oq37 oq38 oq39 oq40 oq41 oq42 oq43 oq44 oq45 oq46 oq47 oq48 oq49 oq50 oq51
          refine zai fun K hK => ?_
          go_simp
          exact hK (.bool ((b0 && b1) && b2)) _ (Below.refl _ _) (rfl)
        | 17, hi =>
          obtain rfl := Option.some.inj (oq17.symm.trans hi)
          have e2 : T[2]? = some (.pointer (some ⟨w.heap.size, 0, none⟩)) := hfree 2 (fr 2 (by kernel_rfl))
          refine zap (T := T) (j := 16) rfl oq16 rfl (hdep 16 _ 57 (odt (by kernel_rfl)) oq16 rfl) (by omega) (fun hC e57 => ?_) (fun hC h => by first | exact absurd hC (by decide) | (rw [hC] at h; cases h))
          clear hdep hfree hsz hops fr oq0 oq1 oq2 oq3 oq4 oq5 oq6 oq7 oq8 oq9 oq10 oq11 oq12 oq13 oq14 oq15 oq16 oq17 oq18 oq19 oq20 oq21 oq22 oq23 oq24 oq25 oq26 oq27 oq28 oq29 oq30 oq31 oq32 oq33 oq34 oq35 oq36 oq37 oq38 oq39 oq40 oq41 oq42 oq43 oq44 oq45 oq46 oq47 oq48 oq49 oq50 oq51
          obtain ⟨c0, c1, c2⟩ := zad (RPr.out.next hbw)
          refine zai fun K hK => ?_
          go_simp
          exact hK (.agg #[.slice A p.A.length cA, .slice B p.B.length cB, .slice C p.C.length cC]) _ (Below.refl _ _) (fun _ => rfl)
        | 18, hi =>
          obtain rfl := Option.some.inj (oq18.symm.trans hi)
          have e3 : T[3]? = some (.pointer (some ⟨(w.heap.size + 1), 0, none⟩)) := hfree 3 (fr 3 (by kernel_rfl))
          refine zap (T := T) (j := 16) rfl oq16 rfl (hdep 16 _ 57 (odt (by kernel_rfl)) oq16 rfl) (by omega) (fun hC e57 => ?_) (fun hC h => by first | exact absurd hC (by decide) | (rw [hC] at h; cases h))
          clear hdep hfree hsz hops fr oq0 oq1 oq2 oq3 oq4 oq5 oq6 oq7 oq8 oq9 oq10 oq11 oq12 oq13 oq14 oq15 oq16 oq17 oq18 oq19 oq20 oq21 oq22 oq23 oq24 oq25 oq26 oq27 oq28 oq29 oq30 oq31 oq32 oq33 oq34 oq35 oq36 oq37 oq38 oq39 oq40 oq41 oq42 oq43 oq44 oq45 oq46 oq47 oq48 oq49 oq50 oq51
          refine zai fun K hK => ?_
          go_simp
          exact hK (.pointer (some ⟨(w.heap.size + 1), 4, none⟩)) _ (Below.refl _ _) (fun _ => rfl)
        | 19, hi =>
          obtain rfl := Option.some.inj (oq19.symm.trans hi)
          refine zap (T := T) (j := 16) rfl oq16 rfl (hdep 16 _ 57 (odt (by kernel_rfl)) oq16 rfl) (by omega) (fun hC e57 => ?_) (fun hC h => by first | exact absurd hC (by decide) | (rw [hC] at h; cases h))
          have e59 : T[59]? = some (.pointer (some ⟨(w.heap.size + 1), 4, none⟩)) := zal (by omega) (hdep 18 _ 59 (odt (by kernel_rfl)) oq18 rfl hC)
          clear hdep hfree hsz hops fr oq0 oq1 oq2 oq3 oq4 oq5 oq6 oq7 oq8 oq9 oq10 oq11 oq12 oq13 oq14 oq15 oq16 oq17 oq18 oq19 oq20 oq21 oq22 oq23 oq24 oq25 oq26 oq27 oq28 oq29 oq30 oq31 oq32 oq33 oq34 oq35 oq36 oq37 oq38 oq39 oq40 oq41 oq42 oq43 oq44 oq45 oq46 oq47 oq48 oq49 oq50 oq51
          obtain ⟨c0, c1, c2, c3, c4, c5, c6⟩ := zba (RSr.out.next hbw)
          refine zai fun K hK => ?_
          go_simp
          exact hK (.slice X s.X.length cX) _ (Below.refl _ _) (fun _ => rfl)
        | 20, hi =>
          obtain rfl := Option.some.inj (oq20.symm.trans hi)
          refine zap (T := T) (j := 16) rfl oq16 rfl (hdep 16 _ 57 (odt (by kernel_rfl)) oq16 rfl) (by omega) (fun hC e57 => ?_) (fun hC h => by first | exact absurd hC (by decide) | (rw [hC] at h; cases h))
          have e58 : T[58]? = some (.agg #[.slice A p.A.length cA, .slice B p.B.length cB, .slice C p.C.length cC]) := zal (by omega) (hdep 17 _ 58 (odt (by kernel_rfl)) oq17 rfl hC)
          have e60 : T[60]? = some (.slice X s.X.length cX) := zal (by omega) (hdep 19 _ 60 (odt (by kernel_rfl)) oq19 rfl hC)
          clear hdep hfree hsz hops fr oq0 oq1 oq2 oq3 oq4 oq5 oq6 oq7 oq8 oq9 oq10 oq11 oq12 oq13 oq14 oq15 oq16 oq17 oq18 oq19 oq20 oq21 oq22 oq23 oq24 oq25 oq26 oq27 oq28 oq29 oq30 oq31 oq32 oq33 oq34 oq35 oq36 oq37 oq38 oq39 oq40 oq41 oq42 oq43 oq44 oq45 oq46 oq47 oq48 oq49 oq50 oq51
          refine zai fun K hK => ?_
          go_simp
          refine (F3.out hC _ (zaa BR.out hbw)).mono ?_
          rintro e w' ⟨rfl, hb⟩
          exact hK _ w' hb (fun _ => rfl)
        | 21, hi =>
          obtain rfl := Option.some.inj (oq21.symm.trans hi)
          have e57 : T[57]? = some (.bool ((b0 && b1) && b2)) := zal (by omega) (hdep 16 _ 57 (odt (by kernel_rfl)) oq16 rfl)
          have d61 : ((b0 && b1) && b2) = true → (T.getD 61 undef) = .bool g1 := hdep 20 _ 61 (odt (by kernel_rfl)) oq20 rfl
          refine zao rfl ?_
          obtain ⟨v61, e61, g61⟩ := zbz (T := T) (t := 61) (by omega)
          rw [g61] at d61
          clear g61
          rcases Bool.eq_false_or_eq_true (((b0 && b1) && b2)) with hC | hC
          · rw [hC] at e57
            have e := d61 hC
            subst e
            clear d61
            clear hdep hfree hsz hops fr oq0 oq1 oq2 oq3 oq4 oq5 oq6 oq7 oq8 oq9 oq10 oq11 oq12 oq13 oq14 oq15 oq16 oq17 oq18 oq19 oq20 oq21 oq22 oq23 oq24 oq25 oq26 oq27 oq28 oq29 oq30 oq31 oq32 oq33 oq34 oq35 oq36 oq37 oq38 oq39 oq40 oq41 oq42 oq43 oq44 oq45 oq46 oq47 oq48 oq49 oq50 oq51
            refine zai fun K hK => ?_
            go_simp
            refine hK (.bool g1) _ (Below.refl _ _) ?_
            show Value.bool _ = Value.bool _
            rw [hC]; rfl
          · rw [hC] at e57
            clear d61
            clear hdep hfree hsz hops fr oq0 oq1 oq2 oq3 oq4 oq5 oq6 oq7 oq8 oq9 oq10 oq11 oq12 oq13 oq14 oq15 oq16 oq17 oq18 oq19 oq20 oq21 oq22 oq23 oq24 oq25 oq26 oq27 oq28 oq29 oq30 oq31 oq32 oq33 oq34 oq35 oq36 oq37 oq38 oq39 oq40 oq41 oq42 oq43 oq44 oq45 oq46 oq47 oq48 oq49 oq50 oq51
            refine zai fun K hK => ?_
            go_simp
            refine hK (.bool false) _ (Below.refl _ _) ?_
            show Value.bool _ = Value.bool _
            rw [hC]; rfl
        | 22, hi =>
          obtain rfl := Option.some.inj (oq22.symm.trans hi)
          have e62 : T[62]? = some (.bool (((b0 && b1) && b2) && g1)) := zal (by omega) (hdep 21 _ 62 (odt (by kernel_rfl)) oq21 rfl)
          refine zao rfl ?_
          clear hdep hfree hsz hops fr oq0 oq1 oq2 oq3 oq4 oq5 oq6 oq7 oq8 oq9 oq10 oq11 oq12 oq13 oq14 oq15 oq16 oq17 oq18 oq19 oq20 oq21 oq22 oq23 oq24 oq25 oq26 oq27 oq28 oq29 oq30 oq31 oq32 oq33 oq34 oq35 oq36 oq37 oq38 oq39 oq40 oq41 oq42 oq43 oq44 oq45 oq46 oq47 oq48 oq49 oq50 oq51
          refine zai fun K hK => ?_
          go_simp
          exact hK (.bool (((b0 && b1) && b2) && g1)) _ (Below.refl _ _) (rfl)
        | 23, hi =>
          obtain rfl := Option.some.inj (oq23.symm.trans hi)
          have e2 : T[2]? = some (.pointer (some ⟨w.heap.size, 0, none⟩)) := hfree 2 (fr 2 (by kernel_rfl))
          refine zap (T := T) (j := 22) rfl oq22 rfl (hdep 22 _ 63 (odt (by kernel_rfl)) oq22 rfl) (by omega) (fun hC e63 => ?_) (fun hC h => by first | exact absurd hC (by decide) | (rw [hC] at h; cases h))
          clear hdep hfree hsz hops fr oq0 oq1 oq2 oq3 oq4 oq5 oq6 oq7 oq8 oq9 oq10 oq11 oq12 oq13 oq14 oq15 oq16 oq17 oq18 oq19 oq20 oq21 oq22 oq23 oq24 oq25 oq26 oq27 oq28 oq29 oq30 oq31 oq32 oq33 oq34 oq35 oq36 oq37 oq38 oq39 oq40 oq41 oq42 oq43 oq44 oq45 oq46 oq47 oq48 oq49 oq50 oq51
          obtain ⟨c0, c1, c2⟩ := zad (RPr.out.next hbw)
          refine zai fun K hK => ?_
          go_simp
          exact hK (.agg #[.slice A p.A.length cA, .slice B p.B.length cB, .slice C p.C.length cC]) _ (Below.refl _ _) (fun _ => rfl)
        | 24, hi =>
          obtain rfl := Option.some.inj (oq24.symm.trans hi)
          refine zap (T := T) (j := 22) rfl oq22 rfl (hdep 22 _ 63 (odt (by kernel_rfl)) oq22 rfl) (by omega) (fun hC e63 => ?_) (fun hC h => by first | exact absurd hC (by decide) | (rw [hC] at h; cases h))
          have e64 : T[64]? = some (.agg #[.slice A p.A.length cA, .slice B p.B.length cB, .slice C p.C.length cC]) := zal (by omega) (hdep 23 _ 64 (odt (by kernel_rfl)) oq23 rfl hC)
          clear hdep hfree hsz hops fr oq0 oq1 oq2 oq3 oq4 oq5 oq6 oq7 oq8 oq9 oq10 oq11 oq12 oq13 oq14 oq15 oq16 oq17 oq18 oq19 oq20 oq21 oq22 oq23 oq24 oq25 oq26 oq27 oq28 oq29 oq30 oq31 oq32 oq33 oq34 oq35 oq36 oq37 oq38 oq39 oq40 oq41 oq42 oq43 oq44 oq45 oq46 oq47 oq48 oq49 oq50 oq51
          refine zai fun K hK => ?_
          go_simp
          refine (F4.out (andl (hC)) _ (zaa BR.out hbw)).mono ?_
          rintro e w' ⟨⟨v, rfl, hv⟩, hb⟩
          exact hK v w' hb (fun _ => hv)
        | 25, hi =>
          obtain rfl := Option.some.inj (oq25.symm.trans hi)
          have e3 : T[3]? = some (.pointer (some ⟨(w.heap.size + 1), 0, none⟩)) := hfree 3 (fr 3 (by kernel_rfl))
          refine zap (T := T) (j := 22) rfl oq22 rfl (hdep 22 _ 63 (odt (by kernel_rfl)) oq22 rfl) (by omega) (fun hC e63 => ?_) (fun hC h => by first | exact absurd hC (by decide) | (rw [hC] at h; cases h))
          clear hdep hfree hsz hops fr oq0 oq1 oq2 oq3 oq4 oq5 oq6 oq7 oq8 oq9 oq10 oq11 oq12 oq13 oq14 oq15 oq16 oq17 oq18 oq19 oq20 oq21 oq22 oq23 oq24 oq25 oq26 oq27 oq28 oq29 oq30 oq31 oq32 oq33 oq34 oq35 oq36 oq37 oq38 oq39 oq40 oq41 oq42 oq43 oq44 oq45 oq46 oq47 oq48 oq49 oq50 oq51
          refine zai fun K hK => ?_
          go_simp
          exact hK (.pointer (some ⟨(w.heap.size + 1), 5, none⟩)) _ (Below.refl _ _) (fun _ => rfl)
        | 26, hi =>
          obtain rfl := Option.some.inj (oq26.symm.trans hi)
          refine zap (T := T) (j := 22) rfl oq22 rfl (hdep 22 _ 63 (odt (by kernel_rfl)) oq22 rfl) (by omega) (fun hC e63 => ?_) (fun hC h => by first | exact absurd hC (by decide) | (rw [hC] at h; cases h))
          have e66 : T[66]? = some (.pointer (some ⟨(w.heap.size + 1), 5, none⟩)) := zal (by omega) (hdep 25 _ 66 (odt (by kernel_rfl)) oq25 rfl hC)
          clear hdep hfree hsz hops fr oq0 oq1 oq2 oq3 oq4 oq5 oq6 oq7 oq8 oq9 oq10 oq11 oq12 oq13 oq14 oq15 oq16 oq17 oq18 oq19 oq20 oq21 oq22 oq23 oq24 oq25 oq26 oq27 oq28 oq29 oq30 oq31 oq32 oq33 oq34 oq35 oq36 oq37 oq38 oq39 oq40 oq41 oq42 oq43 oq44 oq45 oq46 oq47 oq48 oq49 oq50 oq51
          obtain ⟨c0, c1, c2, c3, c4, c5, c6⟩ := zba (RSr.out.next hbw)
          refine zai fun K hK => ?_
          go_simp
          exact hK (.slice D s.D.length cD) _ (Below.refl _ _) (fun _ => rfl)
        | 27, hi =>
          obtain rfl := Option.some.inj (oq27.symm.trans hi)
          refine zap (T := T) (j := 22) rfl oq22 rfl (hdep 22 _ 63 (odt (by kernel_rfl)) oq22 rfl) (by omega) (fun hC e63 => ?_) (fun hC h => by first | exact absurd hC (by decide) | (rw [hC] at h; cases h))
          have d65 : IsP W (Old W) (T.getD 65 undef) (rawP (zca q)) := hdep 24 _ 65 (odt (by kernel_rfl)) oq24 rfl hC
          obtain ⟨v65, e65, g65⟩ := zbz (T := T) (t := 65) (by omega)
          rw [g65] at d65
          clear g65
          have e67 : T[67]? = some (.slice D s.D.length cD) := zal (by omega) (hdep 26 _ 67 (odt (by kernel_rfl)) oq26 rfl hC)
          clear hdep hfree hsz hops fr oq0 oq1 oq2 oq3 oq4 oq5 oq6 oq7 oq8 oq9 oq10 oq11 oq12 oq13 oq14 oq15 oq16 oq17 oq18 oq19 oq20 oq21 oq22 oq23 oq24 oq25 oq26 oq27 oq28 oq29 oq30 oq31 oq32 oq33 oq34 oq35 oq36 oq37 oq38 oq39 oq40 oq41 oq42 oq43 oq44 oq45 oq46 oq47 oq48 oq49 oq50 oq51
          refine zai fun K hK => ?_
          go_simp
          refine (F5.out (andl (hC)) _ _ (zaa BR.out hbw) d65).mono ?_
          rintro e w' ⟨rfl, hb⟩
          exact hK _ w' hb (fun _ => rfl)
        | 28, hi =>
          obtain rfl := Option.some.inj (oq28.symm.trans hi)
          have e63 : T[63]? = some (.bool (((b0 && b1) && b2) && g1)) := zal (by omega) (hdep 22 _ 63 (odt (by kernel_rfl)) oq22 rfl)
          have d68 : (((b0 && b1) && b2) && g1) = true → (T.getD 68 undef) = .bool g2 := hdep 27 _ 68 (odt (by kernel_rfl)) oq27 rfl
          refine zao rfl ?_
          obtain ⟨v68, e68, g68⟩ := zbz (T := T) (t := 68) (by omega)
          rw [g68] at d68
          clear g68
          rcases Bool.eq_false_or_eq_true ((((b0 && b1) && b2) && g1)) with hC | hC
          · rw [hC] at e63
            have e := d68 hC
            subst e
            clear d68
            clear hdep hfree hsz hops fr oq0 oq1 oq2 oq3 oq4 oq5 oq6 oq7 oq8 oq9 oq10 oq11 oq12 oq13 oq14 oq15 oq16 oq17 oq18 oq19 oq20 oq21 oq22 oq23 oq24 oq25 oq26 oq27 oq28 oq29 oq30 oq31 oq32 oq33 oq34 oq35 oq36 oq37 oq38 oq39 oq40 oq41 oq42 oq43 oq44 oq45 oq46 oq47 oq48 oq49 oq50 oq51
            refine zai fun K hK => ?_
            go_simp
            refine hK (.bool g2) _ (Below.refl _ _) ?_
            show Value.bool _ = Value.bool _
            rw [hC]; rfl
          · rw [hC] at e63
            clear d68
            clear hdep hfree hsz hops fr oq0 oq1 oq2 oq3 oq4 oq5 oq6 oq7 oq8 oq9 oq10 oq11 oq12 oq13 oq14 oq15 oq16 oq17 oq18 oq19 oq20 oq21 oq22 oq23 oq24 oq25 oq26 oq27 oq28 oq29 oq30 oq31 oq32 oq33 oq34 oq35 oq36 oq37 oq38 oq39 oq40 oq41 oq42 oq43 oq44 oq45 oq46 oq47 oq48 oq49 oq50 oq51
            refine zai fun K hK => ?_
            go_simp
            refine hK (.bool false) _ (Below.refl _ _) ?_
            show Value.bool _ = Value.bool _
            rw [hC]; rfl
        | 29, hi =>
          obtain rfl := Option.some.inj (oq29.symm.trans hi)
          have e69 : T[69]? = some (.bool ((((b0 && b1) && b2) && g1) && g2)) := zal (by omega) (hdep 28 _ 69 (odt (by kernel_rfl)) oq28 rfl)
          refine zao rfl ?_
          clear hdep hfree hsz hops fr oq0 oq1 oq2 oq3 oq4 oq5 oq6 oq7 oq8 oq9 oq10 oq11 oq12 oq13 oq14 oq15 oq16 oq17 oq18 oq19 oq20 oq21 oq22 oq23 oq24 oq25 oq26 oq27 oq28 oq29 oq30 oq31 oq32 oq33 oq34 oq35 oq36 oq37 oq38 oq39 oq40 oq41 oq42 oq43 oq44 oq45 oq46 oq47 oq48 oq49 oq50 oq51
          refine zai fun K hK => ?_
          go_simp
          exact hK (.bool ((((b0 && b1) && b2) && g1) && g2)) _ (Below.refl _ _) (rfl)
        | 30, hi =>
          obtain rfl := Option.some.inj (oq30.symm.trans hi)
          have e2 : T[2]? = some (.pointer (some ⟨w.heap.size, 0, none⟩)) := hfree 2 (fr 2 (by kernel_rfl))
          refine zap (T := T) (j := 29) rfl oq29 rfl (hdep 29 _ 70 (odt (by kernel_rfl)) oq29 rfl) (by omega) (fun hC e70 => ?_) (fun hC h => by first | exact absurd hC (by decide) | (rw [hC] at h; cases h))
          clear hdep hfree hsz hops fr oq0 oq1 oq2 oq3 oq4 oq5 oq6 oq7 oq8 oq9 oq10 oq11 oq12 oq13 oq14 oq15 oq16 oq17 oq18 oq19 oq20 oq21 oq22 oq23 oq24 oq25 oq26 oq27 oq28 oq29 oq30 oq31 oq32 oq33 oq34 oq35 oq36 oq37 oq38 oq39 oq40 oq41 oq42 oq43 oq44 oq45 oq46 oq47 oq48 oq49 oq50 oq51
          refine zai fun K hK => ?_
          go_simp
          exact hK (.pointer (some ⟨w.heap.size, 2, none⟩)) _ (Below.refl _ _) (fun _ => rfl)
        | 31, hi =>
          obtain rfl := Option.some.inj (oq31.symm.trans hi)
          refine zap (T := T) (j := 29) rfl oq29 rfl (hdep 29 _ 70 (odt (by kernel_rfl)) oq29 rfl) (by omega) (fun hC e70 => ?_) (fun hC h => by first | exact absurd hC (by decide) | (rw [hC] at h; cases h))
          have e71 : T[71]? = some (.pointer (some ⟨w.heap.size, 2, none⟩)) := zal (by omega) (hdep 30 _ 71 (odt (by kernel_rfl)) oq30 rfl hC)
          clear hdep hfree hsz hops fr oq0 oq1 oq2 oq3 oq4 oq5 oq6 oq7 oq8 oq9 oq10 oq11 oq12 oq13 oq14 oq15 oq16 oq17 oq18 oq19 oq20 oq21 oq22 oq23 oq24 oq25 oq26 oq27 oq28 oq29 oq30 oq31 oq32 oq33 oq34 oq35 oq36 oq37 oq38 oq39 oq40 oq41 oq42 oq43 oq44 oq45 oq46 oq47 oq48 oq49 oq50 oq51
          obtain ⟨c0, c1, c2⟩ := zad (RPr.out.next hbw)
          refine zai fun K hK => ?_
          go_simp
          exact hK (.slice C p.C.length cC) _ (Below.refl _ _) (fun _ => rfl)
        | 32, hi =>
          obtain rfl := Option.some.inj (oq32.symm.trans hi)
          have e3 : T[3]? = some (.pointer (some ⟨(w.heap.size + 1), 0, none⟩)) := hfree 3 (fr 3 (by kernel_rfl))
          refine zap (T := T) (j := 29) rfl oq29 rfl (hdep 29 _ 70 (odt (by kernel_rfl)) oq29 rfl) (by omega) (fun hC e70 => ?_) (fun hC h => by first | exact absurd hC (by decide) | (rw [hC] at h; cases h))
          clear hdep hfree hsz hops fr oq0 oq1 oq2 oq3 oq4 oq5 oq6 oq7 oq8 oq9 oq10 oq11 oq12 oq13 oq14 oq15 oq16 oq17 oq18 oq19 oq20 oq21 oq22 oq23 oq24 oq25 oq26 oq27 oq28 oq29 oq30 oq31 oq32 oq33 oq34 oq35 oq36 oq37 oq38 oq39 oq40 oq41 oq42 oq43 oq44 oq45 oq46 oq47 oq48 oq49 oq50 oq51
          refine zai fun K hK => ?_
          go_simp
          exact hK (.pointer (some ⟨(w.heap.size + 1), 4, none⟩)) _ (Below.refl _ _) (fun _ => rfl)
        | 33, hi =>
          obtain rfl := Option.some.inj (oq33.symm.trans hi)
          refine zap (T := T) (j := 29) rfl oq29 rfl (hdep 29 _ 70 (odt (by kernel_rfl)) oq29 rfl) (by omega) (fun hC e70 => ?_) (fun hC h => by first | exact absurd hC (by decide) | (rw [hC] at h; cases h))
          have e73 : T[73]? = some (.pointer (some ⟨(w.heap.size + 1), 4, none⟩)) := zal (by omega) (hdep 32 _ 73 (odt (by kernel_rfl)) oq32 rfl hC)
          clear hdep hfree hsz hops fr oq0 oq1 oq2 oq3 oq4 oq5 oq6 oq7 oq8 oq9 oq10 oq11 oq12 oq13 oq14 oq15 oq16 oq17 oq18 oq19 oq20 oq21 oq22 oq23 oq24 oq25 oq26 oq27 oq28 oq29 oq30 oq31 oq32 oq33 oq34 oq35 oq36 oq37 oq38 oq39 oq40 oq41 oq42 oq43 oq44 oq45 oq46 oq47 oq48 oq49 oq50 oq51
          obtain ⟨c0, c1, c2, c3, c4, c5, c6⟩ := zba (RSr.out.next hbw)
          refine zai fun K hK => ?_
          go_simp
          exact hK (.slice X s.X.length cX) _ (Below.refl _ _) (fun _ => rfl)
        | 34, hi =>
          obtain rfl := Option.some.inj (oq34.symm.trans hi)
          refine zap (T := T) (j := 29) rfl oq29 rfl (hdep 29 _ 70 (odt (by kernel_rfl)) oq29 rfl) (by omega) (fun hC e70 => ?_) (fun hC h => by first | exact absurd hC (by decide) | (rw [hC] at h; cases h))
          have e72 : T[72]? = some (.slice C p.C.length cC) := zal (by omega) (hdep 31 _ 72 (odt (by kernel_rfl)) oq31 rfl hC)
          have e74 : T[74]? = some (.slice X s.X.length cX) := zal (by omega) (hdep 33 _ 74 (odt (by kernel_rfl)) oq33 rfl hC)
          clear hdep hfree hsz hops fr oq0 oq1 oq2 oq3 oq4 oq5 oq6 oq7 oq8 oq9 oq10 oq11 oq12 oq13 oq14 oq15 oq16 oq17 oq18 oq19 oq20 oq21 oq22 oq23 oq24 oq25 oq26 oq27 oq28 oq29 oq30 oq31 oq32 oq33 oq34 oq35 oq36 oq37 oq38 oq39 oq40 oq41 oq42 oq43 oq44 oq45 oq46 oq47 oq48 oq49 oq50 oq51
          refine zai fun K hK => ?_
          go_simp
          refine (F6.out (andl (andl (hC))) _ (zaa BR.out hbw)).mono ?_
          rintro e w' ⟨⟨v, rfl, hv⟩, hb⟩
          exact hK v w' hb (fun _ => IsQ.stb.old hv)
        | 35, hi =>
          obtain rfl := Option.some.inj (oq35.symm.trans hi)
          have e3 : T[3]? = some (.pointer (some ⟨(w.heap.size + 1), 0, none⟩)) := hfree 3 (fr 3 (by kernel_rfl))
          refine zap (T := T) (j := 29) rfl oq29 rfl (hdep 29 _ 70 (odt (by kernel_rfl)) oq29 rfl) (by omega) (fun hC e70 => ?_) (fun hC h => by first | exact absurd hC (by decide) | (rw [hC] at h; cases h))
          clear hdep hfree hsz hops fr oq0 oq1 oq2 oq3 oq4 oq5 oq6 oq7 oq8 oq9 oq10 oq11 oq12 oq13 oq14 oq15 oq16 oq17 oq18 oq19 oq20 oq21 oq22 oq23 oq24 oq25 oq26 oq27 oq28 oq29 oq30 oq31 oq32 oq33 oq34 oq35 oq36 oq37 oq38 oq39 oq40 oq41 oq42 oq43 oq44 oq45 oq46 oq47 oq48 oq49 oq50 oq51
          refine zai fun K hK => ?_
          go_simp
          exact hK (.pointer (some ⟨(w.heap.size + 1), 1, none⟩)) _ (Below.refl _ _) (fun _ => rfl)
        | 36, hi =>
          obtain rfl := Option.some.inj (oq36.symm.trans hi)
          refine zap (T := T) (j := 29) rfl oq29 rfl (hdep 29 _ 70 (odt (by kernel_rfl)) oq29 rfl) (by omega) (fun hC e70 => ?_) (fun hC h => by first | exact absurd hC (by decide) | (rw [hC] at h; cases h))
          have e76 : T[76]? = some (.pointer (some ⟨(w.heap.size + 1), 1, none⟩)) := zal (by omega) (hdep 35 _ 76 (odt (by kernel_rfl)) oq35 rfl hC)
          clear hdep hfree hsz hops fr oq0 oq1 oq2 oq3 oq4 oq5 oq6 oq7 oq8 oq9 oq10 oq11 oq12 oq13 oq14 oq15 oq16 oq17 oq18 oq19 oq20 oq21 oq22 oq23 oq24 oq25 oq26 oq27 oq28 oq29 oq30 oq31 oq32 oq33 oq34 oq35 oq36 oq37 oq38 oq39 oq40 oq41 oq42 oq43 oq44 oq45 oq46 oq47 oq48 oq49 oq50 oq51
          obtain ⟨c0, c1, c2, c3, c4, c5, c6⟩ := zba (RSr.out.next hbw)
          refine zai fun K hK => ?_
          go_simp
          exact hK (.agg #[.bool s.val.neg, .slice P s.val.num.length cP, .slice Q s.val.den.length cQ]) _ (Below.refl _ _) (fun _ => rfl)
        | 37, hi =>
          obtain rfl := Option.some.inj (oq37.symm.trans hi)
          refine zap (T := T) (j := 29) rfl oq29 rfl (hdep 29 _ 70 (odt (by kernel_rfl)) oq29 rfl) (by omega) (fun hC e70 => ?_) (fun hC h => by first | exact absurd hC (by decide) | (rw [hC] at h; cases h))
          have d75 : IsQ W (Old W) (T.getD 75 undef) zc := hdep 34 _ 75 (odt (by kernel_rfl)) oq34 rfl hC
          obtain ⟨v75, e75, g75⟩ := zbz (T := T) (t := 75) (by omega)
          rw [g75] at d75
          clear g75
          have e77 : T[77]? = some (.agg #[.bool s.val.neg, .slice P s.val.num.length cP, .slice Q s.val.den.length cQ]) := zal (by omega) (hdep 36 _ 77 (odt (by kernel_rfl)) oq36 rfl hC)
          clear hdep hfree hsz hops fr oq0 oq1 oq2 oq3 oq4 oq5 oq6 oq7 oq8 oq9 oq10 oq11 oq12 oq13 oq14 oq15 oq16 oq17 oq18 oq19 oq20 oq21 oq22 oq23 oq24 oq25 oq26 oq27 oq28 oq29 oq30 oq31 oq32 oq33 oq34 oq35 oq36 oq37 oq38 oq39 oq40 oq41 oq42 oq43 oq44 oq45 oq46 oq47 oq48 oq49 oq50 oq51
          refine zai fun K hK => ?_
          go_simp
          refine (F7.out (andl (andl (hC))) _ _ (zaa BR.out hbw) d75).mono ?_
          rintro e w' ⟨rfl, hb⟩
          exact hK _ w' hb (fun _ => rfl)
        | 38, hi =>
          obtain rfl := Option.some.inj (oq38.symm.trans hi)
          refine zap (T := T) (j := 29) rfl oq29 rfl (hdep 29 _ 70 (odt (by kernel_rfl)) oq29 rfl) (by omega) (fun hC e70 => ?_) (fun hC h => by first | exact absurd hC (by decide) | (rw [hC] at h; cases h))
          have e78 : T[78]? = some (.int .i64 k1) := zal (by omega) (hdep 37 _ 78 (odt (by kernel_rfl)) oq37 rfl hC)
          clear hdep hfree hsz hops fr oq0 oq1 oq2 oq3 oq4 oq5 oq6 oq7 oq8 oq9 oq10 oq11 oq12 oq13 oq14 oq15 oq16 oq17 oq18 oq19 oq20 oq21 oq22 oq23 oq24 oq25 oq26 oq27 oq28 oq29 oq30 oq31 oq32 oq33 oq34 oq35 oq36 oq37 oq38 oq39 oq40 oq41 oq42 oq43 oq44 oq45 oq46 oq47 oq48 oq49 oq50 oq51
          refine zai fun K hK => ?_
          go_simp
          exact hK (.bool o1) _ (Below.refl _ _) (fun _ => rfl)
        | 39, hi =>
          obtain rfl := Option.some.inj (oq39.symm.trans hi)
          have e70 : T[70]? = some (.bool ((((b0 && b1) && b2) && g1) && g2)) := zal (by omega) (hdep 29 _ 70 (odt (by kernel_rfl)) oq29 rfl)
          have d79 : ((((b0 && b1) && b2) && g1) && g2) = true → (T.getD 79 undef) = .bool o1 := hdep 38 _ 79 (odt (by kernel_rfl)) oq38 rfl
          refine zao rfl ?_
          obtain ⟨v79, e79, g79⟩ := zbz (T := T) (t := 79) (by omega)
          rw [g79] at d79
          clear g79
          rcases Bool.eq_false_or_eq_true (((((b0 && b1) && b2) && g1) && g2)) with hC | hC
          · rw [hC] at e70
            have e := d79 hC
            subst e
            clear d79
            clear hdep hfree hsz hops fr oq0 oq1 oq2 oq3 oq4 oq5 oq6 oq7 oq8 oq9 oq10 oq11 oq12 oq13 oq14 oq15 oq16 oq17 oq18 oq19 oq20 oq21 oq22 oq23 oq24 oq25 oq26 oq27 oq28 oq29 oq30 oq31 oq32 oq33 oq34 oq35 oq36 oq37 oq38 oq39 oq40 oq41 oq42 oq43 oq44 oq45 oq46 oq47 oq48 oq49 oq50 oq51
            refine zai fun K hK => ?_
            go_simp
            refine hK (.bool o1) _ (Below.refl _ _) ?_
            show Value.bool _ = Value.bool _
            rw [hC]; rfl
          · rw [hC] at e70
            clear d79
            clear hdep hfree hsz hops fr oq0 oq1 oq2 oq3 oq4 oq5 oq6 oq7 oq8 oq9 oq10 oq11 oq12 oq13 oq14 oq15 oq16 oq17 oq18 oq19 oq20 oq21 oq22 oq23 oq24 oq25 oq26 oq27 oq28 oq29 oq30 oq31 oq32 oq33 oq34 oq35 oq36 oq37 oq38 oq39 oq40 oq41 oq42 oq43 oq44 oq45 oq46 oq47 oq48 oq49 oq50 oq51
            refine zai fun K hK => ?_
            go_simp
            refine hK (.bool false) _ (Below.refl _ _) ?_
            show Value.bool _ = Value.bool _
            rw [hC]; rfl
        | 40, hi =>
          obtain rfl := Option.some.inj (oq40.symm.trans hi)
          have e80 : T[80]? = some (.bool (((((b0 && b1) && b2) && g1) && g2) && o1)) := zal (by omega) (hdep 39 _ 80 (odt (by kernel_rfl)) oq39 rfl)
          refine zao rfl ?_
          clear hdep hfree hsz hops fr oq0 oq1 oq2 oq3 oq4 oq5 oq6 oq7 oq8 oq9 oq10 oq11 oq12 oq13 oq14 oq15 oq16 oq17 oq18 oq19 oq20 oq21 oq22 oq23 oq24 oq25 oq26 oq27 oq28 oq29 oq30 oq31 oq32 oq33 oq34 oq35 oq36 oq37 oq38 oq39 oq40 oq41 oq42 oq43 oq44 oq45 oq46 oq47 oq48 oq49 oq50 oq51
          refine zai fun K hK => ?_
          go_simp
          exact hK (.bool (((((b0 && b1) && b2) && g1) && g2) && o1)) _ (Below.refl _ _) (rfl)
        | 41, hi =>
          obtain rfl := Option.some.inj (oq41.symm.trans hi)
          have e2 : T[2]? = some (.pointer (some ⟨w.heap.size, 0, none⟩)) := hfree 2 (fr 2 (by kernel_rfl))
          refine zap (T := T) (j := 40) rfl oq40 rfl (hdep 40 _ 81 (odt (by kernel_rfl)) oq40 rfl) (by omega) (fun hC e81 => ?_) (fun hC h => by first | exact absurd hC (by decide) | (rw [hC] at h; cases h))
          clear hdep hfree hsz hops fr oq0 oq1 oq2 oq3 oq4 oq5 oq6 oq7 oq8 oq9 oq10 oq11 oq12 oq13 oq14 oq15 oq16 oq17 oq18 oq19 oq20 oq21 oq22 oq23 oq24 oq25 oq26 oq27 oq28 oq29 oq30 oq31 oq32 oq33 oq34 oq35 oq36 oq37 oq38 oq39 oq40 oq41 oq42 oq43 oq44 oq45 oq46 oq47 oq48 oq49 oq50 oq51
          refine zai fun K hK => ?_
          go_simp
          exact hK (.pointer (some ⟨w.heap.size, 1, none⟩)) _ (Below.refl _ _) (fun _ => rfl)
        | 42, hi =>
          obtain rfl := Option.some.inj (oq42.symm.trans hi)
          refine zap (T := T) (j := 40) rfl oq40 rfl (hdep 40 _ 81 (odt (by kernel_rfl)) oq40 rfl) (by omega) (fun hC e81 => ?_) (fun hC h => by first | exact absurd hC (by decide) | (rw [hC] at h; cases h))
          have e82 : T[82]? = some (.pointer (some ⟨w.heap.size, 1, none⟩)) := zal (by omega) (hdep 41 _ 82 (odt (by kernel_rfl)) oq41 rfl hC)
          clear hdep hfree hsz hops fr oq0 oq1 oq2 oq3 oq4 oq5 oq6 oq7 oq8 oq9 oq10 oq11 oq12 oq13 oq14 oq15 oq16 oq17 oq18 oq19 oq20 oq21 oq22 oq23 oq24 oq25 oq26 oq27 oq28 oq29 oq30 oq31 oq32 oq33 oq34 oq35 oq36 oq37 oq38 oq39 oq40 oq41 oq42 oq43 oq44 oq45 oq46 oq47 oq48 oq49 oq50 oq51
          obtain ⟨c0, c1, c2⟩ := zad (RPr.out.next hbw)
          refine zai fun K hK => ?_
          go_simp
          exact hK (.slice B p.B.length cB) _ (Below.refl _ _) (fun _ => rfl)
        | 43, hi =>
          obtain rfl := Option.some.inj (oq43.symm.trans hi)
          have e3 : T[3]? = some (.pointer (some ⟨(w.heap.size + 1), 0, none⟩)) := hfree 3 (fr 3 (by kernel_rfl))
          refine zap (T := T) (j := 40) rfl oq40 rfl (hdep 40 _ 81 (odt (by kernel_rfl)) oq40 rfl) (by omega) (fun hC e81 => ?_) (fun hC h => by first | exact absurd hC (by decide) | (rw [hC] at h; cases h))
          clear hdep hfree hsz hops fr oq0 oq1 oq2 oq3 oq4 oq5 oq6 oq7 oq8 oq9 oq10 oq11 oq12 oq13 oq14 oq15 oq16 oq17 oq18 oq19 oq20 oq21 oq22 oq23 oq24 oq25 oq26 oq27 oq28 oq29 oq30 oq31 oq32 oq33 oq34 oq35 oq36 oq37 oq38 oq39 oq40 oq41 oq42 oq43 oq44 oq45 oq46 oq47 oq48 oq49 oq50 oq51
          refine zai fun K hK => ?_
          go_simp
          exact hK (.pointer (some ⟨(w.heap.size + 1), 5, none⟩)) _ (Below.refl _ _) (fun _ => rfl)
        | 44, hi =>
          obtain rfl := Option.some.inj (oq44.symm.trans hi)
          refine zap (T := T) (j := 40) rfl oq40 rfl (hdep 40 _ 81 (odt (by kernel_rfl)) oq40 rfl) (by omega) (fun hC e81 => ?_) (fun hC h => by first | exact absurd hC (by decide) | (rw [hC] at h; cases h))
          have e84 : T[84]? = some (.pointer (some ⟨(w.heap.size + 1), 5, none⟩)) := zal (by omega) (hdep 43 _ 84 (odt (by kernel_rfl)) oq43 rfl hC)
          clear hdep hfree hsz hops fr oq0 oq1 oq2 oq3 oq4 oq5 oq6 oq7 oq8 oq9 oq10 oq11 oq12 oq13 oq14 oq15 oq16 oq17 oq18 oq19 oq20 oq21 oq22 oq23 oq24 oq25 oq26 oq27 oq28 oq29 oq30 oq31 oq32 oq33 oq34 oq35 oq36 oq37 oq38 oq39 oq40 oq41 oq42 oq43 oq44 oq45 oq46 oq47 oq48 oq49 oq50 oq51
          obtain ⟨c0, c1, c2, c3, c4, c5, c6⟩ := zba (RSr.out.next hbw)
          refine zai fun K hK => ?_
          go_simp
          exact hK (.slice D s.D.length cD) _ (Below.refl _ _) (fun _ => rfl)
        | 45, hi =>
          obtain rfl := Option.some.inj (oq45.symm.trans hi)
          refine zap (T := T) (j := 40) rfl oq40 rfl (hdep 40 _ 81 (odt (by kernel_rfl)) oq40 rfl) (by omega) (fun hC e81 => ?_) (fun hC h => by first | exact absurd hC (by decide) | (rw [hC] at h; cases h))
          have e83 : T[83]? = some (.slice B p.B.length cB) := zal (by omega) (hdep 42 _ 83 (odt (by kernel_rfl)) oq42 rfl hC)
          have e85 : T[85]? = some (.slice D s.D.length cD) := zal (by omega) (hdep 44 _ 85 (odt (by kernel_rfl)) oq44 rfl hC)
          clear hdep hfree hsz hops fr oq0 oq1 oq2 oq3 oq4 oq5 oq6 oq7 oq8 oq9 oq10 oq11 oq12 oq13 oq14 oq15 oq16 oq17 oq18 oq19 oq20 oq21 oq22 oq23 oq24 oq25 oq26 oq27 oq28 oq29 oq30 oq31 oq32 oq33 oq34 oq35 oq36 oq37 oq38 oq39 oq40 oq41 oq42 oq43 oq44 oq45 oq46 oq47 oq48 oq49 oq50 oq51
          refine zai fun K hK => ?_
          go_simp
          refine (F8.out (andl (andl (andl (hC)))) _ (zaa BR.out hbw)).mono ?_
          rintro e w' ⟨⟨v, rfl, hv⟩, hb⟩
          exact hK v w' hb (fun _ => IsQ.stb.old hv)
        | 46, hi =>
          obtain rfl := Option.some.inj (oq46.symm.trans hi)
          have e3 : T[3]? = some (.pointer (some ⟨(w.heap.size + 1), 0, none⟩)) := hfree 3 (fr 3 (by kernel_rfl))
          refine zap (T := T) (j := 40) rfl oq40 rfl (hdep 40 _ 81 (odt (by kernel_rfl)) oq40 rfl) (by omega) (fun hC e81 => ?_) (fun hC h => by first | exact absurd hC (by decide) | (rw [hC] at h; cases h))
          clear hdep hfree hsz hops fr oq0 oq1 oq2 oq3 oq4 oq5 oq6 oq7 oq8 oq9 oq10 oq11 oq12 oq13 oq14 oq15 oq16 oq17 oq18 oq19 oq20 oq21 oq22 oq23 oq24 oq25 oq26 oq27 oq28 oq29 oq30 oq31 oq32 oq33 oq34 oq35 oq36 oq37 oq38 oq39 oq40 oq41 oq42 oq43 oq44 oq45 oq46 oq47 oq48 oq49 oq50 oq51
          refine zai fun K hK => ?_
          go_simp
          exact hK (.pointer (some ⟨(w.heap.size + 1), 1, none⟩)) _ (Below.refl _ _) (fun _ => rfl)
        | 47, hi =>
          obtain rfl := Option.some.inj (oq47.symm.trans hi)
          refine zap (T := T) (j := 40) rfl oq40 rfl (hdep 40 _ 81 (odt (by kernel_rfl)) oq40 rfl) (by omega) (fun hC e81 => ?_) (fun hC h => by first | exact absurd hC (by decide) | (rw [hC] at h; cases h))
          have e87 : T[87]? = some (.pointer (some ⟨(w.heap.size + 1), 1, none⟩)) := zal (by omega) (hdep 46 _ 87 (odt (by kernel_rfl)) oq46 rfl hC)
          clear hdep hfree hsz hops fr oq0 oq1 oq2 oq3 oq4 oq5 oq6 oq7 oq8 oq9 oq10 oq11 oq12 oq13 oq14 oq15 oq16 oq17 oq18 oq19 oq20 oq21 oq22 oq23 oq24 oq25 oq26 oq27 oq28 oq29 oq30 oq31 oq32 oq33 oq34 oq35 oq36 oq37 oq38 oq39 oq40 oq41 oq42 oq43 oq44 oq45 oq46 oq47 oq48 oq49 oq50 oq51
          obtain ⟨c0, c1, c2, c3, c4, c5, c6⟩ := zba (RSr.out.next hbw)
          refine zai fun K hK => ?_
          go_simp
          exact hK (.agg #[.bool s.val.neg, .slice P s.val.num.length cP, .slice Q s.val.den.length cQ]) _ (Below.refl _ _) (fun _ => rfl)
        | 48, hi =>
          obtain rfl := Option.some.inj (oq48.symm.trans hi)
          refine zap (T := T) (j := 40) rfl oq40 rfl (hdep 40 _ 81 (odt (by kernel_rfl)) oq40 rfl) (by omega) (fun hC e81 => ?_) (fun hC h => by first | exact absurd hC (by decide) | (rw [hC] at h; cases h))
          have d86 : IsQ W (Old W) (T.getD 86 undef) zb := hdep 45 _ 86 (odt (by kernel_rfl)) oq45 rfl hC
          obtain ⟨v86, e86, g86⟩ := zbz (T := T) (t := 86) (by omega)
          rw [g86] at d86
          clear g86
          have e88 : T[88]? = some (.agg #[.bool s.val.neg, .slice P s.val.num.length cP, .slice Q s.val.den.length cQ]) := zal (by omega) (hdep 47 _ 88 (odt (by kernel_rfl)) oq47 rfl hC)
          clear hdep hfree hsz hops fr oq0 oq1 oq2 oq3 oq4 oq5 oq6 oq7 oq8 oq9 oq10 oq11 oq12 oq13 oq14 oq15 oq16 oq17 oq18 oq19 oq20 oq21 oq22 oq23 oq24 oq25 oq26 oq27 oq28 oq29 oq30 oq31 oq32 oq33 oq34 oq35 oq36 oq37 oq38 oq39 oq40 oq41 oq42 oq43 oq44 oq45 oq46 oq47 oq48 oq49 oq50 oq51
          refine zai fun K hK => ?_
          go_simp
          refine (F9.out (andl (andl (andl (hC)))) _ _ (zaa BR.out hbw) d86).mono ?_
          rintro e w' ⟨rfl, hb⟩
          exact hK _ w' hb (fun _ => rfl)
        | 49, hi =>
          obtain rfl := Option.some.inj (oq49.symm.trans hi)
          refine zap (T := T) (j := 40) rfl oq40 rfl (hdep 40 _ 81 (odt (by kernel_rfl)) oq40 rfl) (by omega) (fun hC e81 => ?_) (fun hC h => by first | exact absurd hC (by decide) | (rw [hC] at h; cases h))
          have e89 : T[89]? = some (.int .i64 k2) := zal (by omega) (hdep 48 _ 89 (odt (by kernel_rfl)) oq48 rfl hC)
          clear hdep hfree hsz hops fr oq0 oq1 oq2 oq3 oq4 oq5 oq6 oq7 oq8 oq9 oq10 oq11 oq12 oq13 oq14 oq15 oq16 oq17 oq18 oq19 oq20 oq21 oq22 oq23 oq24 oq25 oq26 oq27 oq28 oq29 oq30 oq31 oq32 oq33 oq34 oq35 oq36 oq37 oq38 oq39 oq40 oq41 oq42 oq43 oq44 oq45 oq46 oq47 oq48 oq49 oq50 oq51
          refine zai fun K hK => ?_
          go_simp
          exact hK (.bool o2) _ (Below.refl _ _) (fun _ => rfl)
        | 50, hi =>
          obtain rfl := Option.some.inj (oq50.symm.trans hi)
          have e81 : T[81]? = some (.bool (((((b0 && b1) && b2) && g1) && g2) && o1)) := zal (by omega) (hdep 40 _ 81 (odt (by kernel_rfl)) oq40 rfl)
          have d90 : (((((b0 && b1) && b2) && g1) && g2) && o1) = true → (T.getD 90 undef) = .bool o2 := hdep 49 _ 90 (odt (by kernel_rfl)) oq49 rfl
          refine zao rfl ?_
          obtain ⟨v90, e90, g90⟩ := zbz (T := T) (t := 90) (by omega)
          rw [g90] at d90
          clear g90
          rcases Bool.eq_false_or_eq_true ((((((b0 && b1) && b2) && g1) && g2) && o1)) with hC | hC
          · rw [hC] at e81
            have e := d90 hC
            subst e
            clear d90
            clear hdep hfree hsz hops fr oq0 oq1 oq2 oq3 oq4 oq5 oq6 oq7 oq8 oq9 oq10 oq11 oq12 oq13 oq14 oq15 oq16 oq17 oq18 oq19 oq20 oq21 oq22 oq23 oq24 oq25 oq26 oq27 oq28 oq29 oq30 oq31 oq32 oq33 oq34 oq35 oq36 oq37 oq38 oq39 oq40 oq41 oq42 oq43 oq44 oq45 oq46 oq47 oq48 oq49 oq50 oq51
            refine zai fun K hK => ?_
            go_simp
            refine hK (.bool o2) _ (Below.refl _ _) ?_
            show Value.bool _ = Value.bool _
            rw [hC]; rfl
          · rw [hC] at e81
            clear d90
            clear hdep hfree hsz hops fr oq0 oq1 oq2 oq3 oq4 oq5 oq6 oq7 oq8 oq9 oq10 oq11 oq12 oq13 oq14 oq15 oq16 oq17 oq18 oq19 oq20 oq21 oq22 oq23 oq24 oq25 oq26 oq27 oq28 oq29 oq30 oq31 oq32 oq33 oq34 oq35 oq36 oq37 oq38 oq39 oq40 oq41 oq42 oq43 oq44 oq45 oq46 oq47 oq48 oq49 oq50 oq51
            refine zai fun K hK => ?_
            go_simp
            refine hK (.bool false) _ (Below.refl _ _) ?_
            show Value.bool _ = Value.bool _
            rw [hC]; rfl
        | 51, hi =>
          obtain rfl := Option.some.inj (oq51.symm.trans hi)
          have e91 : T[91]? = some (.bool ((((((b0 && b1) && b2) && g1) && g2) && o1) && o2)) := zal (by omega) (hdep 50 _ 91 (odt (by kernel_rfl)) oq50 rfl)
          refine zao rfl ?_
          clear hdep hfree hsz hops fr oq0 oq1 oq2 oq3 oq4 oq5 oq6 oq7 oq8 oq9 oq10 oq11 oq12 oq13 oq14 oq15 oq16 oq17 oq18 oq19 oq20 oq21 oq22 oq23 oq24 oq25 oq26 oq27 oq28 oq29 oq30 oq31 oq32 oq33 oq34 oq35 oq36 oq37 oq38 oq39 oq40 oq41 oq42 oq43 oq44 oq45 oq46 oq47 oq48 oq49 oq50 oq51
          refine zai fun K hK => ?_
          go_simp
          exact hK (.bool ((((((b0 && b1) && b2) && g1) && g2) && o1) && o2)) _ (Below.refl _ _) (rfl)
        | _ + 52, hi => rw [hops] at hi; cases hi
      case fin =>
        intro a W hsz hdf hbw hfree hall
        obtain ⟨⟨l⟩, df⟩ := a
        replace hsz : l.length = 189 := hsz
        obtain ⟨fs, rfl⟩ := open189 hsz
        obtain rfl : df = [] := hdf
        have bs2 : fs 2 = .pointer (some ⟨w.heap.size, 0, none⟩) := Option.some.inj (hfree 2 (fr 2 (by kernel_rfl)))
        have bs3 : fs 3 = .pointer (some ⟨(w.heap.size + 1), 0, none⟩) := Option.some.inj (hfree 3 (fr 3 (by kernel_rfl)))
        have bs4 : fs 4 = .bool ((((((b0 && b1) && b2) && g1) && g2) && o1) && o2) := hall 51 _ 4 oq51 rfl
        clear hops fr oq0 oq1 oq2 oq3 oq4 oq5 oq6 oq7 oq8 oq9 oq10 oq11 oq12 oq13 oq14 oq15 oq16 oq17 oq18 oq19 oq20 oq21 oq22 oq23 oq24 oq25 oq26 oq27 oq28 oq29 oq30 oq31 oq32 oq33 oq34 oq35 oq36 oq37 oq38 oq39 oq40 oq41 oq42 oq43 oq44 oq45 oq46 oq47 oq48 oq49 oq50 oq51
        clear hall hfree hsz
        rw [bs2, bs3, bs4]
        clear bs2 bs3 bs4
        go_wp2_with fail
        go_ret
        exact ⟨rfl, zaa BR.out hbw⟩
end Go.Proofs.YtblpaocignlpkaaGreatDoor
