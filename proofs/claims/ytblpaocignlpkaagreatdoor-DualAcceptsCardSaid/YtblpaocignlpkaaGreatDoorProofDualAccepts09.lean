/-
  The reference's accepts: status infeasible.
-/
import Derived.Test.YtblpaocignlpkaaGreatDoorProofDualAccepts08
namespace Go.Proofs.YtblpaocignlpkaaGreatDoor
open Go.RowKit
set_option linter.unusedVariables false
def Inf18 (w00 : World) (p : Prog) (s : Sol) (A : Option Addr) (cA : Nat) (B : Option Addr) (cB : Nat) (P : Option Addr) (cP : Nat) (Q : Option Addr) (cQ : Nat) (X : Option Addr) (cX : Nat) (D : Option Addr) (cD : Nat) (R : Option Addr) (cR : Nat) (AzB : Option Addr) (czB : Nat) (z a1 a2 b2 g2 sg : Bool) (q : ProgQ) (zb : Rat) (i : Nat) (v : Value) (w : World) : Prop :=
  match i with
  | 0 => v = .pointer (some ⟨(w00.heap.size + 1), 1, none⟩)
  | 1 => v = .agg #[.bool s.val.neg, .slice P s.val.num.length cP, .slice Q s.val.den.length cQ]
  | 2 => v = .bool z
  | 3 => v = .bool z
  | 4 => z = true → v = .pointer (some ⟨(w00.heap.size + 1), 4, none⟩)
  | 5 => z = true → v = .slice X s.X.length cX
  | 6 => z = true → v = .int .i64 (s.X.length : Nat)
  | 7 => z = true → v = .bool a1
  | 8 => v = .bool (z && a1)
  | 9 => v = .bool (z && a1)
  | 10 => (z && a1) = true → v = .pointer (some ⟨(w00.heap.size + 1), 6, none⟩)
  | 11 => (z && a1) = true → v = .slice R s.R.length cR
  | 12 => (z && a1) = true → v = .int .i64 (s.R.length : Nat)
  | 13 => (z && a1) = true → v = .bool a2
  | 14 => v = .bool ((z && a1) && a2)
  | 15 => v = .bool ((z && a1) && a2)
  | 16 => ((z && a1) && a2) = true → v = .pointer (some ⟨(w00.heap.size + 1), 5, none⟩)
  | 17 => ((z && a1) && a2) = true → v = .slice D s.D.length cD
  | 18 => ((z && a1) && a2) = true → v = .int .i64 (p.B.length : Nat)
  | 19 => ((z && a1) && a2) = true → v = .bool b2
  | 20 => v = .bool (((z && a1) && a2) && b2)
  | 21 => v = .bool (((z && a1) && a2) && b2)
  | 22 => (((z && a1) && a2) && b2) = true → v = .agg #[.slice A p.A.length cA, .slice B p.B.length cB, .slice AzB p.C.length czB]
  | 23 => (((z && a1) && a2) && b2) = true → IsP w (Old w) v (rawP (zca q))
  | 24 => (((z && a1) && a2) && b2) = true → v = .pointer (some ⟨(w00.heap.size + 1), 5, none⟩)
  | 25 => (((z && a1) && a2) && b2) = true → v = .slice D s.D.length cD
  | 26 => (((z && a1) && a2) && b2) = true → v = .bool g2
  | 27 => v = .bool ((((z && a1) && a2) && b2) && g2)
  | 28 => v = .bool ((((z && a1) && a2) && b2) && g2)
  | 29 => ((((z && a1) && a2) && b2) && g2) = true → v = .pointer (some ⟨w00.heap.size, 1, none⟩)
  | 30 => ((((z && a1) && a2) && b2) && g2) = true → v = .slice B p.B.length cB
  | 31 => ((((z && a1) && a2) && b2) && g2) = true → v = .pointer (some ⟨(w00.heap.size + 1), 5, none⟩)
  | 32 => ((((z && a1) && a2) && b2) && g2) = true → v = .slice D s.D.length cD
  | 33 => ((((z && a1) && a2) && b2) && g2) = true → IsQ w (Old w) v zb
  | 34 => ((((z && a1) && a2) && b2) && g2) = true → v = .bool sg
  | 35 => v = .bool (((((z && a1) && a2) && b2) && g2) && sg)
  | 36 => v = .bool (((((z && a1) && a2) && b2) && g2) && sg)
  | _ => True
theorem inf18_stb (w00 : World) (p : Prog) (s : Sol) (A : Option Addr) (cA : Nat) (B : Option Addr) (cB : Nat) (P : Option Addr) (cP : Nat) (Q : Option Addr) (cQ : Nat) (X : Option Addr) (cX : Nat) (D : Option Addr) (cD : Nat) (R : Option Addr) (cR : Nat) (AzB : Option Addr) (czB : Nat) (z a1 a2 b2 g2 sg : Bool) (q : ProgQ) (zb : Rat) : ∀ (i : Nat) (v : Value) (w w' : World), Inf18 w00 p s A cA B cB P cP Q cQ X cX D cD R cR AzB czB z a1 a2 b2 g2 sg q zb i v w → Below w.heap.size w w' → Inf18 w00 p s A cA B cB P cP Q cQ X cX D cD R cR AzB czB z a1 a2 b2 g2 sg q zb i v w' := fun i v w w' h hb => match i, h with
  | 0, h => h
  | 1, h => h
  | 2, h => h
  | 3, h => h
  | 4, h => h
  | 5, h => h
  | 6, h => h
  | 7, h => h
  | 8, h => h
  | 9, h => h
  | 10, h => h
  | 11, h => h
  | 12, h => h
  | 13, h => h
  | 14, h => h
  | 15, h => h
  | 16, h => h
  | 17, h => h
  | 18, h => h
  | 19, h => h
  | 20, h => h
  | 21, h => h
  | 22, h => h
  | 23, h => fun hc => IsP.stb.next (h hc) hb
  | 24, h => h
  | 25, h => h
  | 26, h => h
  | 27, h => h
  | 28, h => h
  | 29, h => h
  | 30, h => h
  | 31, h => h
  | 32, h => h
  | 33, h => fun hc => IsQ.stb.next (h hc) hb
  | 34, h => h
  | 35, h => h
  | 36, h => h
  | _ + 37, _ => trivial
set_option maxRecDepth 100000 in
set_option maxHeartbeats 8000000 in
theorem raccepts_inf_of {w : World} {vp vs : Value} {p : Prog} {s : Sol} {z a1 a2 b2 g2 sg : Bool} {q : ProgQ} {zb : Rat} (hp : IsP w (Old w) vp p) (hs : IsSol w (Old w) vs s) (hval : chkQ s.val = 0) (hn40 : p.C.length ≤ 40) (hm40 : p.B.length ≤ 40) (hst : s.st = 2)
    (ha1 : a1 = decide (s.X.length = 0)) (ha2 : a2 = decide (s.R.length = 0)) (hsg : sg = decide (zb.num < 0))
    (f1 : ∀ v, IsR w (Old w) v s.val → ∀ W, Below w.heap.size w W → Calls Tryz.prog 69 #[v] W fun e w' => e = .returned (.bool z) ∧ Below W.heap.size W w')
    (f2 : ∀ v, IsV w (Old w) v s.D → ∀ W, Below w.heap.size w W → Calls Tryz.prog 111 #[v, .int .i64 (p.B.length : Nat)] W fun e w' => e = .returned (.bool b2) ∧ Below W.heap.size W w')
    (f4 : (((z && a1) && a2) && b2) = true → ∀ W v, Below w.heap.size w W → IsP W (Old W) v ⟨p.A, p.B, rawV (zbj p.C.length)⟩ → Calls Tryz.prog 68 #[v] W fun e w' => (∃ v, e = .returned v ∧ IsP w' (Old w') v (rawP (zca q))) ∧ Below W.heap.size W w')
    (f5 : (((z && a1) && a2) && b2) = true → ∀ vx, IsV w (Old w) vx s.D → ∀ W v, Below w.heap.size w W → IsP W (Old W) v (rawP (zca q)) → Calls Tryz.prog 77 #[v, vx] W fun e w' => e = .returned (.bool g2) ∧ Below W.heap.size W w')
    (f8 : (((z && a1) && a2) && b2) = true → ∀ va vb, IsV w (Old w) va p.B → IsV w (Old w) vb s.D → ∀ W, Below w.heap.size w W → Calls Tryz.prog 62 #[va, vb] W (RetQ W zb)) :
    Calls Tryz.prog 55 #[vp, vs] w fun e w' => e = .returned (.bool (((((z && a1) && a2) && b2) && g2) && sg)) ∧ Below w.heap.size w w' := by
  have HV := Lib.hid hval
  clear hval
  have HA1 := Lib.hid ha1
  have HA2 := Lib.hid ha2
  have HSG := Lib.hid hsg
  have F1' := Lib.hid f1
  have F2' := Lib.hid f2
  have F4 := Lib.hid f4
  have F5' := Lib.hid f5
  have F8' := Lib.hid f8
  clear ha1 ha2 hsg f1 f2 f4 f5 f8
  have hps : ∃ A cA B cB C cC P cP Q cQ X cX D cD R cR, vp = .agg #[.slice A p.A.length cA, .slice B p.B.length cB, .slice C p.C.length cC] ∧ vs = .agg #[.int .i64 s.st, .bool s.val.neg, .slice P s.val.num.length cP, .slice Q s.val.den.length cQ, .slice X s.X.length cX, .slice D s.D.length cD, .slice R s.R.length cR] ∧ IsPS w (Old w) (.agg #[.slice A p.A.length cA, .slice B p.B.length cB, .slice C p.C.length cC, .int .i64 s.st, .bool s.val.neg, .slice P s.val.num.length cP, .slice Q s.val.den.length cQ, .slice X s.X.length cX, .slice D s.D.length cD, .slice R s.R.length cR]) p s := by
    obtain ⟨A, cA, B, cB, C, cC, rfl, h1, h2, h3⟩ := hp
    obtain ⟨P, cP, Q, cQ, X, cX, D, cD, R, cR, rfl, h4, h5, h6, h7⟩ := hs
    exact ⟨A, cA, B, cB, C, cC, P, cP, Q, cQ, X, cX, D, cD, R, cR, rfl, rfl, A, cA, B, cB, C, cC, P, cP, Q, cQ, X, cX, D, cD, R, cR, rfl, h1, h2, h3, h4, h5, h6, h7⟩
  have HP := Lib.hid hp
  have HVR : Hid (∀ P cP Q cQ X cX D cD R cR, vs = .agg #[.int .i64 s.st, .bool s.val.neg, .slice P s.val.num.length cP, .slice Q s.val.den.length cQ, .slice X s.X.length cX, .slice D s.D.length cD, .slice R s.R.length cR] → IsR w (Old w) (.agg #[.bool s.val.neg, .slice P s.val.num.length cP, .slice Q s.val.den.length cQ]) s.val) := by
    intro P cP Q cQ X cX D cD R cR e
    obtain ⟨P', cP', Q', cQ', X', cX', D', cD', R', cR', e', h4, _⟩ := hs
    rw [e] at e'
    cases e'
    exact h4
  clear hp hs
  obtain ⟨A, cA, B, cB, C, cC, P, cP, Q, cQ, X, cX, D, cD, R, cR, rfl, rfl, hv⟩ := hps
  have HR := Lib.hid (HVR.out _ _ _ _ _ _ _ _ _ _ rfl)
  have HPS := Lib.hid (isPS_parts hv)
  clear HVR hv
  rw [hst] at *
  obtain ⟨w0, hw0, hb0, rP, rS, Hz⟩ := zcl w #[.slice A p.A.length cA, .slice B p.B.length cB, .slice C p.C.length cC] #[.int .i64 2, .bool s.val.neg, .slice P s.val.num.length cP, .slice Q s.val.den.length cQ, .slice X s.X.length cX, .slice D s.D.length cD, .slice R s.R.length cR] 27 33
  have HB0 := Lib.hid hb0
  have RP := Lib.hid rP
  have RS := Lib.hid rS
  obtain ⟨p0, p1, p2⟩ := zad rP
  obtain ⟨s0, s1, s2, s3, s4, s5, s6⟩ := zba rS
  clear hb0 rP rS
  go_enter Tryz.func55, Tryz.ntmps55
  go_wp2_with fail
  clear hw0
  go_region
  have hd := zac w0
  obtain ⟨wd, hwd⟩ : ∃ x, x = w0.drew := ⟨_, rfl⟩
  rw [← hwd] at hd ⊢
  have HBd := Lib.hid (zaa HB0.out hd)
  have RPd := Lib.hid (RP.out.next hd)
  have RSd := Lib.hid (RS.out.next hd)
  have hzd : w0.heap.size ≤ wd.heap.size := hd.size
  clear p0 p1 p2 s0 s1 s2 s3 s4 s5 s6 hd hwd RP RS HB0
  obtain ⟨p0, p1, p2⟩ := zad RPd.out
  obtain ⟨s0, s1, s2, s3, s4, s5, s6⟩ := zba RSd.out
  go_wp2_with fail
  refine (rcheck_q (IsR.stb.to HR.out (zag HBd.out))).mono ?_
  rw [HV.out]
  rintro e w1 ⟨rfl, hb⟩
  obtain ⟨z0, hz0⟩ : ∃ z : Rat, z = 0 := ⟨_, rfl⟩
  have HZ0 := Lib.hid hz0
  have HW : Hid (∀ W : World, Calls Tryz.prog 110 #[.int .i64 0] W (RetQ W z0)) := fun W => by rw [HZ0.out]; exact whole0_q W
  clear hz0
  obtain ⟨wE, hwE, hbE, rE, HzE⟩ := zbm w1 #[.slice none 0 0, .slice none 0 0, .slice none 0 0] 27
  obtain ⟨w2, hw2, hb2, r2, _, hz2⟩ := finP (wB := wd) (w5 := wE) (X := w1) (g := w1.heap.size) (a := .slice A p.A.length cA) (b := .slice none 0 0) (c := .slice C p.C.length cC) (zaa hb hbE) hb (by rw [hwE]; exact Below.refl _ _) rfl
  have p0 := zab hb p0
  have p1 := zab hb p1
  have p2 := zab hb p2
  have s0 := zab hb s0
  have p0 := zab hbE p0
  have p1 := zab hbE p1
  have p2 := zab hbE p2
  obtain ⟨d0, d1, d2⟩ := zad rE
  obtain ⟨f0, f1, f2⟩ := zax rE
  go_wp2_with fail
  obtain ⟨g, hg⟩ : ∃ g, g = w1.heap.size := ⟨_, rfl⟩
  rw [← hg] at r2 hz2 ⊢
  have BH := Lib.hid hb2
  have RH := Lib.hid r2
  have GH : Hid (g < w2.heap.size) := r2.lt
  have GwH : Hid (wd.heap.size ≤ g) := hz2.out.1
  clear hw2 hwE hb hbE rE hb2 r2 hz2 hg p0 p1 p2 s0 s1 s2 s3 s4 s5 s6 d0 d1 d2 f0 f1 f2 HzE
  go_loopw [8] (fun i wr => ∃ (j : Nat) (S : Nat → Prop) (va : Value), j ≤ p.B.length ∧ i = .int .i64 (j : Int) ∧ Below wd.heap.size wd wr ∧ w2.grownBy wr (some g) ∧ Row wr g 27 [.slice A p.A.length cA, va, .slice C p.C.length cC] ∧ OwnS 3 31 IsR wr w2.heap.size S va (rawV (zbj j)) ∧ Hid (∀ b, S b → w2.heap.size ≤ b)) (fun i _ => p.B.length - (intOf i).toNat)
  case atStart => exact ⟨0, fun _ => False, _, Nat.zero_le _, rfl, BH.out, zdr (Below.refl _ _), RH.out, by simpa [rawV, zbj] using (OwnS.nil (fun b h => False.elim h) : OwnS 3 31 IsR w2 w2.heap.size (fun _ => False) _ _), fun b h => False.elim h⟩
  case round =>
    obtain ⟨j, S, va, hj, rfl, hbw, hgr, hrow, hown, hS⟩ := hrel
    have Hbw := Lib.hid hbw
    have Hgr := Lib.hid hgr
    have HRw := Lib.hid hrow
    have HS1 := Lib.hid hS.out
    have Hown := Lib.hid hown
    have hszE := hgr.size
    have hgb : g < w2.heap.size := GH.out
    have hgw : wd.heap.size ≤ g := GwH.out
    obtain ⟨AzH, czH, hva⟩ := hown.slice
    rw [zay, zbk] at hva
    subst hva
    obtain ⟨g0, g1, g2⟩ := zad hrow
    clear hS hgr hrow hown hbw
    rcases Nat.lt_or_ge j p.B.length with hlt | hge
    · go_wp2_with fail
      go_region_law (first
          | ((rw [if_pos (by rfl)]); go_simp; go_at_call 110; (with_reducible refine Calls.mono (HW.out _) ?_); rintro e w3 ⟨⟨v3, rfl, hv3⟩, hb3⟩; obtain ⟨s3, P3, k3, O3, l3, rfl, _, _, _⟩ := zan hv3; clear g0 g1 g2; have hB4 : Below wr.heap.size wr w3 := (by (repeat (first | exact Below.refl _ _ | assumption | refine zae ?_ _ | refine zah ?_ | refine zaf ?_ ?_ _ _ _ | refine zaj ?_ (by omega) | refine zaa ?_ (by assumption))); (first | done | fail)); obtain ⟨g0, g1, g2⟩ := zad (Row.next HRw.out hB4 : Row w3 _ _ _); have hs4 := hB4.size; have HO := Lib.hid (OwnS.step IsR.stb (T := fun b => S b ∨ (wr.heap.size ≤ b ∧ b < w3.heap.size)) Hown.out hB4 (fun b h => .inl h) (fun b h => h)); have HE := Lib.hid (IsR.stb.to (show IsR w3 (New wr.heap.size w3) _ (raw z0) from hv3) (zat (T := fun b => S b ∨ (wr.heap.size ≤ b ∧ b < w3.heap.size)) fun b h => .inr h)); have hb4w : w2.heap.size ≤ w3.heap.size := (by omega); have R4 := Lib.hid (Row.next HRw.out hB4); have ga0 := zab (zas w3 (.cells #[.bool s3, .slice P3 (lim z0.num.natAbs).length k3, .slice O3 (lim z0.den).length l3] 31)) g1; (try dsimp only))
          | (refine zfd elR rfl _ _ rfl IsR.stb rfl rfl rfl HO.out HE.out (by rfl) (by intro u hu; simp [Value.cells] at hu; rcases hu with rfl | rfl | rfl <;> rfl) (by rw [zay, zbk]; omega) hb4w ?_; intro v5 w5 hown5 hb5 hz5; obtain ⟨A5, c5, hA5⟩ := hown5.slice; rw [List.length_append, List.length_singleton, zay, zbk] at hA5; subst hA5; have R5 := Row.below R4.out hb5 hgb; obtain ⟨h0, h1, h2⟩ := zad R5; obtain ⟨y0, y1, y2⟩ := zax R5))
      all_goals
        go_wp2_with fail
        go_roundw
        case rel =>
          have hS7 : ∀ b, (S b ∨ (wr.heap.size ≤ b ∧ b < w3.heap.size)) → w2.heap.size ≤ b := fun b hb => by rcases hb with hb | hb; exact HS1.out b hb; omega
          refine ⟨j + 1, fun b => S b ∨ (wr.heap.size ≤ b ∧ b < w3.heap.size), _, by omega, by go_num, (zaa Hbw.out hB4).trans ((hb5.mono (by omega)).setCell (p := ⟨g, 1, none⟩) (by show _ ≤ g; omega) _), (zee Hgr.out ((hB4.mono hszE).trans hb5)).trans (zcn _ g 1 _), R5.set_ 1 _, ?_, hS7⟩
          refine OwnS.stepG IsR.stb ?_ (zcn _ g 1 _) hgb (fun b h => by have := hS7 b h; omega)
          have e : rawV (zbj (j + 1)) = rawV (zbj j) ++ [raw z0] := by rw [zfb, rawV_snoc, HZ0.out]
          rw [e]
          exact hown5
        case measure => simp [intOf]; omega
    · have ej : j = p.B.length := by omega
      clear g0 g1 g2
      rw [ej] at Hown HRw
      have HZH : Hid (IsV wr (fun b => w2.heap.size ≤ b ∧ b < wr.heap.size) (.slice AzH p.B.length czH) (rawV (zbj p.B.length))) := by
        have h := Hown.out
        exact OwnS.isS IsR.stb h (fun b hb => by obtain ⟨_, _, _, _, h4⟩ := h; exact ⟨HS1.out b hb, (h4 b hb).1⟩) (fun b h1 h2 => ⟨h1, h2⟩)
      clear Hown HS1
      have HBr := Lib.hid (zaa HBd.out Hbw.out)
      have RPr := Lib.hid (RPd.out.next Hbw.out)
      have RSr := Lib.hid (RSd.out.next Hbw.out)
      clear Hbw Hgr HRw RPd RSd HBd BH RH HZH GwH GH hszE hgb hgw hge
      obtain ⟨wd, hwd⟩ : ∃ x, x = wr := ⟨_, rfl⟩
      rw [← hwd] at HBr RPr RSr ⊢
      clear hwd
      obtain ⟨p0, p1, p2⟩ := zad RPr.out
      obtain ⟨s0, s1, s2, s3, s4, s5, s6⟩ := zba RSr.out
      obtain ⟨wE, hwE, hbE, rE, HzE⟩ := zbm wd #[.slice none 0 0, .slice none 0 0, .slice none 0 0] 27
      obtain ⟨w4, hw4, hb4, r4, _, hz4⟩ := finP (wB := wd) (w5 := wE) (X := wd) (g := wd.heap.size) (a := .slice A p.A.length cA) (b := .slice B p.B.length cB) (c := .slice none 0 0) hbE (Below.refl _ _) (by rw [hwE]; exact Below.refl _ _) rfl
      obtain ⟨d0, d1, d2⟩ := zad rE
      obtain ⟨f0, f1, f2⟩ := zax rE
      go_wp2_with fail
      obtain ⟨g', hg'⟩ : ∃ g', g' = wd.heap.size := ⟨_, rfl⟩
      rw [← hg'] at r4 ⊢
      have BB := Lib.hid hb4
      have RB := Lib.hid r4
      have GB : Hid (g' < w4.heap.size) := r4.lt
      have GwB : Hid (wd.heap.size ≤ g') := Nat.le_of_eq hg'.symm
      clear hw4 hwE hbE rE hb4 r4 hz4 hg' p0 p1 p2 s0 s1 s2 s3 s4 s5 s6 d0 d1 d2 f0 f1 f2 HzE
      go_loopw [10] (fun i wr => ∃ (j : Nat) (S : Nat → Prop) (va : Value), j ≤ p.C.length ∧ i = .int .i64 (j : Int) ∧ Below wd.heap.size wd wr ∧ w4.grownBy wr (some g') ∧ Row wr g' 27 [.slice A p.A.length cA, .slice B p.B.length cB, va] ∧ OwnS 3 31 IsR wr w4.heap.size S va (rawV (zbj j)) ∧ Hid (∀ b, S b → w4.heap.size ≤ b)) (fun i _ => p.C.length - (intOf i).toNat)
      case atStart => exact ⟨0, fun _ => False, _, Nat.zero_le _, rfl, BB.out, zdr (Below.refl _ _), RB.out, by simpa [rawV, zbj] using (OwnS.nil (fun b h => False.elim h) : OwnS 3 31 IsR w4 w4.heap.size (fun _ => False) _ _), fun b h => False.elim h⟩
      case round =>
        obtain ⟨j, S, va, hj, rfl, hbw, hgr, hrow, hown, hS⟩ := hrel
        have Hbw := Lib.hid hbw
        have Hgr := Lib.hid hgr
        have HRw := Lib.hid hrow
        have HS1 := Lib.hid hS.out
        have Hown := Lib.hid hown
        have hszE := hgr.size
        have hgb : g' < w4.heap.size := GB.out
        have hgw : wd.heap.size ≤ g' := GwB.out
        obtain ⟨AzB, czB, hva⟩ := hown.slice
        rw [zay, zbk] at hva
        subst hva
        obtain ⟨g0, g1, g2⟩ := zad hrow
        clear hS hgr hrow hown hbw
        rcases Nat.lt_or_ge j p.C.length with hlt | hge
        · go_wp2_with fail
          go_region_law (first
              | ((rw [if_pos (by rfl)]); go_simp; go_at_call 110; (with_reducible refine Calls.mono (HW.out _) ?_); rintro e w3 ⟨⟨v3, rfl, hv3⟩, hb3⟩; obtain ⟨s3, P3, k3, O3, l3, rfl, _, _, _⟩ := zan hv3; clear g0 g1 g2; have hB4 : Below wr.heap.size wr w3 := (by (repeat (first | exact Below.refl _ _ | assumption | refine zae ?_ _ | refine zah ?_ | refine zaf ?_ ?_ _ _ _ | refine zaj ?_ (by omega) | refine zaa ?_ (by assumption))); (first | done | fail)); obtain ⟨g0, g1, g2⟩ := zad (Row.next HRw.out hB4 : Row w3 _ _ _); have hs4 := hB4.size; have HO := Lib.hid (OwnS.step IsR.stb (T := fun b => S b ∨ (wr.heap.size ≤ b ∧ b < w3.heap.size)) Hown.out hB4 (fun b h => .inl h) (fun b h => h)); have HE := Lib.hid (IsR.stb.to (show IsR w3 (New wr.heap.size w3) _ (raw z0) from hv3) (zat (T := fun b => S b ∨ (wr.heap.size ≤ b ∧ b < w3.heap.size)) fun b h => .inr h)); have hb4w : w4.heap.size ≤ w3.heap.size := (by omega); have R4 := Lib.hid (Row.next HRw.out hB4); have ga0 := zab (zas w3 (.cells #[.bool s3, .slice P3 (lim z0.num.natAbs).length k3, .slice O3 (lim z0.den).length l3] 31)) g2; (try dsimp only))
              | (refine zfd elR rfl _ _ rfl IsR.stb rfl rfl rfl HO.out HE.out (by rfl) (by intro u hu; simp [Value.cells] at hu; rcases hu with rfl | rfl | rfl <;> rfl) (by rw [zay, zbk]; omega) hb4w ?_; intro v5 w5 hown5 hb5 hz5; obtain ⟨A5, c5, hA5⟩ := hown5.slice; rw [List.length_append, List.length_singleton, zay, zbk] at hA5; subst hA5; have R5 := Row.below R4.out hb5 hgb; obtain ⟨h0, h1, h2⟩ := zad R5; obtain ⟨y0, y1, y2⟩ := zax R5))
          all_goals
            go_wp2_with fail
            go_roundw
            case rel =>
              have hS7 : ∀ b, (S b ∨ (wr.heap.size ≤ b ∧ b < w3.heap.size)) → w4.heap.size ≤ b := fun b hb => by rcases hb with hb | hb; exact HS1.out b hb; omega
              refine ⟨j + 1, fun b => S b ∨ (wr.heap.size ≤ b ∧ b < w3.heap.size), _, by omega, by go_num, (zaa Hbw.out hB4).trans ((hb5.mono (by omega)).setCell (p := ⟨g', 2, none⟩) (by show _ ≤ g'; omega) _), (zee Hgr.out ((hB4.mono hszE).trans hb5)).trans (zcn _ g' 2 _), R5.set_ 2 _, ?_, hS7⟩
              refine OwnS.stepG IsR.stb ?_ (zcn _ g' 2 _) hgb (fun b h => by have := hS7 b h; omega)
              have e : rawV (zbj (j + 1)) = rawV (zbj j) ++ [raw z0] := by rw [zfb, rawV_snoc, HZ0.out]
              rw [e]
              exact hown5
            case measure => simp [intOf]; omega
        · have ej : j = p.C.length := by omega
          clear g0 g1 g2
          rw [ej] at Hown HRw
          have HZB : Hid (IsV wr (fun b => w4.heap.size ≤ b ∧ b < wr.heap.size) (.slice AzB p.C.length czB) (rawV (zbj p.C.length))) := by
            have h := Hown.out
            exact OwnS.isS IsR.stb h (fun b hb => by obtain ⟨_, _, _, _, h4⟩ := h; exact ⟨HS1.out b hb, (h4 b hb).1⟩) (fun b h1 h2 => ⟨h1, h2⟩)
          clear Hown HS1
          obtain ⟨hPA, hPB, hPC, hPV, hPX, hPD, _⟩ := HPS.out
          have F1 : Hid _ := F1'.out _ hPV
          have F2 : Hid _ := F2'.out _ hPD
          have F5 : Hid _ := fun h => F5'.out h _ hPD
          have F8 : Hid _ := fun h => F8'.out h _ _ hPB hPD
          have BR := Lib.hid (zaa HBr.out Hbw.out)
          have HI : Hid (∀ W, Below wr.heap.size wr W → IsP W (Old W) (.agg #[.slice A p.A.length cA, .slice B p.B.length cB, .slice AzB p.C.length czB]) ⟨p.A, p.B, rawV (zbj p.C.length)⟩) := fun W hW => by
            have hz := zay (zbj p.C.length)
            rw [zbk] at hz
            have h3 := IsV.stb.to (IsV.stb.to HZB.out (zbq hW fun b h => h.2)) (zat (T := Old W) fun b h => Nat.lt_of_lt_of_le h.2 hW.size)
            exact isP_mk (p := ⟨p.A, p.B, rawV (zbj p.C.length)⟩) (IsM.stb.to hPA (zag (zaa BR.out hW))) (IsV.stb.to hPB (zag (zaa BR.out hW))) h3
          have RBr := Lib.hid HRw.out
          replace RPr := Lib.hid (RPr.out.next Hbw.out)
          replace RSr := Lib.hid (RSr.out.next Hbw.out)
          clear F1' F2' F5' F8' hPA hPB hPC hPV hPX hPD HPS HR HP Hbw HBr Hgr HRw BB RB HZB
          have e1 : (((s.X.length : Nat) : Int) == 0) = a1 := by rw [HA1.out]; exact len_eq0
          have e2 : (((s.R.length : Nat) : Int) == 0) = a2 := by rw [HA2.out]; exact len_eq0
          go_wp2_with fail
          refine zey fun ops hops => ?_
          have oq0 := zaw (j := 0) hops rfl
          have oq1 := zaw (j := 1) hops rfl
          have oq2 := zaw (j := 2) hops rfl
          have oq3 := zaw (j := 3) hops rfl
          have oq4 := zaw (j := 4) hops rfl
          have oq5 := zaw (j := 5) hops rfl
          have oq6 := zaw (j := 6) hops rfl
          have oq7 := zaw (j := 7) hops rfl
          have oq8 := zaw (j := 8) hops rfl
          have oq9 := zaw (j := 9) hops rfl
          have oq10 := zaw (j := 10) hops rfl
          have oq11 := zaw (j := 11) hops rfl
          have oq12 := zaw (j := 12) hops rfl
          have oq13 := zaw (j := 13) hops rfl
          have oq14 := zaw (j := 14) hops rfl
          have oq15 := zaw (j := 15) hops rfl
          have oq16 := zaw (j := 16) hops rfl
          have oq17 := zaw (j := 17) hops rfl
          have oq18 := zaw (j := 18) hops rfl
          have oq19 := zaw (j := 19) hops rfl
          have oq20 := zaw (j := 20) hops rfl
          have oq21 := zaw (j := 21) hops rfl
          have oq22 := zaw (j := 22) hops rfl
          have oq23 := zaw (j := 23) hops rfl
          have oq24 := zaw (j := 24) hops rfl
          have oq25 := zaw (j := 25) hops rfl
          have oq26 := zaw (j := 26) hops rfl
          have oq27 := zaw (j := 27) hops rfl
          have oq28 := zaw (j := 28) hops rfl
          have oq29 := zaw (j := 29) hops rfl
          have oq30 := zaw (j := 30) hops rfl
          have oq31 := zaw (j := 31) hops rfl
          have oq32 := zaw (j := 32) hops rfl
          have oq33 := zaw (j := 33) hops rfl
          have oq34 := zaw (j := 34) hops rfl
          have oq35 := zaw (j := 35) hops rfl
          have oq36 := zaw (j := 36) hops rfl
          have fr := fun t h => slot_abs hops t h
          refine zeh (Inf18 w p s A cA B cB P cP Q cQ X cX D cD R cR AzB czB z a1 a2 b2 g2 sg q zb) (by kernel_rfl) (inf18_stb w p s A cA B cB P cP Q cQ X cX D cD R cR AzB czB z a1 a2 b2 g2 sg q zb) (by rw [hops]; kernel_rfl) ?step ?fin
          case step =>
            intro i o hi a W hsz hdf hbw hfree hdep
            obtain ⟨T, df⟩ := a
            replace hsz : T.size = 189 := hsz
            obtain rfl : df = [] := hdf
            match i, hi with
            | 0, hi =>
              obtain rfl := Option.some.inj (oq0.symm.trans hi)
              have e3 : T[3]? = some (.pointer (some ⟨(w.heap.size + 1), 0, none⟩)) := hfree 3 (fr 3 (by kernel_rfl))
              refine zao rfl ?_
              clear hdep hfree hsz hops fr oq0 oq1 oq2 oq3 oq4 oq5 oq6 oq7 oq8 oq9 oq10 oq11 oq12 oq13 oq14 oq15 oq16 oq17 oq18 oq19 oq20 oq21 oq22 oq23 oq24 oq25 oq26 oq27 oq28 oq29 oq30 oq31 oq32 oq33 oq34 oq35 oq36
              refine zai fun K hK => ?_
              go_simp
              exact hK (.pointer (some ⟨(w.heap.size + 1), 1, none⟩)) _ (Below.refl _ _) (rfl)
            | 1, hi =>
              obtain rfl := Option.some.inj (oq1.symm.trans hi)
              have e110 : T[110]? = some (.pointer (some ⟨(w.heap.size + 1), 1, none⟩)) := zal (by omega) (hdep 0 _ 110 (odt (by kernel_rfl)) oq0 rfl)
              refine zao rfl ?_
              clear hdep hfree hsz hops fr oq0 oq1 oq2 oq3 oq4 oq5 oq6 oq7 oq8 oq9 oq10 oq11 oq12 oq13 oq14 oq15 oq16 oq17 oq18 oq19 oq20 oq21 oq22 oq23 oq24 oq25 oq26 oq27 oq28 oq29 oq30 oq31 oq32 oq33 oq34 oq35 oq36
              obtain ⟨c0, c1, c2, c3, c4, c5, c6⟩ := zba (RSr.out.next hbw)
              refine zai fun K hK => ?_
              go_simp
              exact hK (.agg #[.bool s.val.neg, .slice P s.val.num.length cP, .slice Q s.val.den.length cQ]) _ (Below.refl _ _) (rfl)
            | 2, hi =>
              obtain rfl := Option.some.inj (oq2.symm.trans hi)
              have e111 : T[111]? = some (.agg #[.bool s.val.neg, .slice P s.val.num.length cP, .slice Q s.val.den.length cQ]) := zal (by omega) (hdep 1 _ 111 (odt (by kernel_rfl)) oq1 rfl)
              refine zao rfl ?_
              clear hdep hfree hsz hops fr oq0 oq1 oq2 oq3 oq4 oq5 oq6 oq7 oq8 oq9 oq10 oq11 oq12 oq13 oq14 oq15 oq16 oq17 oq18 oq19 oq20 oq21 oq22 oq23 oq24 oq25 oq26 oq27 oq28 oq29 oq30 oq31 oq32 oq33 oq34 oq35 oq36
              refine zai fun K hK => ?_
              go_simp
              refine (F1.out _ (zaa BR.out hbw)).mono ?_
              rintro e w' ⟨rfl, hb⟩
              exact hK _ w' hb rfl
            | 3, hi =>
              obtain rfl := Option.some.inj (oq3.symm.trans hi)
              have e112 : T[112]? = some (.bool z) := zal (by omega) (hdep 2 _ 112 (odt (by kernel_rfl)) oq2 rfl)
              refine zao rfl ?_
              clear hdep hfree hsz hops fr oq0 oq1 oq2 oq3 oq4 oq5 oq6 oq7 oq8 oq9 oq10 oq11 oq12 oq13 oq14 oq15 oq16 oq17 oq18 oq19 oq20 oq21 oq22 oq23 oq24 oq25 oq26 oq27 oq28 oq29 oq30 oq31 oq32 oq33 oq34 oq35 oq36
              refine zai fun K hK => ?_
              go_simp
              exact hK (.bool z) _ (Below.refl _ _) (rfl)
            | 4, hi =>
              obtain rfl := Option.some.inj (oq4.symm.trans hi)
              have e3 : T[3]? = some (.pointer (some ⟨(w.heap.size + 1), 0, none⟩)) := hfree 3 (fr 3 (by kernel_rfl))
              refine zap (T := T) (j := 3) rfl oq3 rfl (hdep 3 _ 113 (odt (by kernel_rfl)) oq3 rfl) (by omega) (fun hC e113 => ?_) (fun hC h => by first | exact absurd hC (by decide) | (rw [hC] at h; cases h))
              clear hdep hfree hsz hops fr oq0 oq1 oq2 oq3 oq4 oq5 oq6 oq7 oq8 oq9 oq10 oq11 oq12 oq13 oq14 oq15 oq16 oq17 oq18 oq19 oq20 oq21 oq22 oq23 oq24 oq25 oq26 oq27 oq28 oq29 oq30 oq31 oq32 oq33 oq34 oq35 oq36
              refine zai fun K hK => ?_
              go_simp
              exact hK (.pointer (some ⟨(w.heap.size + 1), 4, none⟩)) _ (Below.refl _ _) (fun _ => rfl)
            | 5, hi =>
              obtain rfl := Option.some.inj (oq5.symm.trans hi)
              refine zap (T := T) (j := 3) rfl oq3 rfl (hdep 3 _ 113 (odt (by kernel_rfl)) oq3 rfl) (by omega) (fun hC e113 => ?_) (fun hC h => by first | exact absurd hC (by decide) | (rw [hC] at h; cases h))
              have e114 : T[114]? = some (.pointer (some ⟨(w.heap.size + 1), 4, none⟩)) := zal (by omega) (hdep 4 _ 114 (odt (by kernel_rfl)) oq4 rfl hC)
              clear hdep hfree hsz hops fr oq0 oq1 oq2 oq3 oq4 oq5 oq6 oq7 oq8 oq9 oq10 oq11 oq12 oq13 oq14 oq15 oq16 oq17 oq18 oq19 oq20 oq21 oq22 oq23 oq24 oq25 oq26 oq27 oq28 oq29 oq30 oq31 oq32 oq33 oq34 oq35 oq36
              obtain ⟨c0, c1, c2, c3, c4, c5, c6⟩ := zba (RSr.out.next hbw)
              refine zai fun K hK => ?_
              go_simp
              exact hK (.slice X s.X.length cX) _ (Below.refl _ _) (fun _ => rfl)
            | 6, hi =>
              obtain rfl := Option.some.inj (oq6.symm.trans hi)
              refine zap (T := T) (j := 3) rfl oq3 rfl (hdep 3 _ 113 (odt (by kernel_rfl)) oq3 rfl) (by omega) (fun hC e113 => ?_) (fun hC h => by first | exact absurd hC (by decide) | (rw [hC] at h; cases h))
              have e115 : T[115]? = some (.slice X s.X.length cX) := zal (by omega) (hdep 5 _ 115 (odt (by kernel_rfl)) oq5 rfl hC)
              clear hdep hfree hsz hops fr oq0 oq1 oq2 oq3 oq4 oq5 oq6 oq7 oq8 oq9 oq10 oq11 oq12 oq13 oq14 oq15 oq16 oq17 oq18 oq19 oq20 oq21 oq22 oq23 oq24 oq25 oq26 oq27 oq28 oq29 oq30 oq31 oq32 oq33 oq34 oq35 oq36
              refine zai fun K hK => ?_
              go_simp
              exact hK (.int .i64 (s.X.length : Nat)) _ (Below.refl _ _) (fun _ => rfl)
            | 7, hi =>
              obtain rfl := Option.some.inj (oq7.symm.trans hi)
              refine zap (T := T) (j := 3) rfl oq3 rfl (hdep 3 _ 113 (odt (by kernel_rfl)) oq3 rfl) (by omega) (fun hC e113 => ?_) (fun hC h => by first | exact absurd hC (by decide) | (rw [hC] at h; cases h))
              have e116 : T[116]? = some (.int .i64 (s.X.length : Nat)) := zal (by omega) (hdep 6 _ 116 (odt (by kernel_rfl)) oq6 rfl hC)
              clear hdep hfree hsz hops fr oq0 oq1 oq2 oq3 oq4 oq5 oq6 oq7 oq8 oq9 oq10 oq11 oq12 oq13 oq14 oq15 oq16 oq17 oq18 oq19 oq20 oq21 oq22 oq23 oq24 oq25 oq26 oq27 oq28 oq29 oq30 oq31 oq32 oq33 oq34 oq35 oq36
              refine zai fun K hK => ?_
              go_simp
              exact hK (.bool a1) _ (Below.refl _ _) (fun _ => rfl)
            | 8, hi =>
              obtain rfl := Option.some.inj (oq8.symm.trans hi)
              have e113 : T[113]? = some (.bool z) := zal (by omega) (hdep 3 _ 113 (odt (by kernel_rfl)) oq3 rfl)
              have d117 : z = true → (T.getD 117 undef) = .bool a1 := hdep 7 _ 117 (odt (by kernel_rfl)) oq7 rfl
              refine zao rfl ?_
              obtain ⟨v117, e117, g117⟩ := zbz (T := T) (t := 117) (by omega)
              rw [g117] at d117
              clear g117
              rcases Bool.eq_false_or_eq_true (z) with hC | hC
              · rw [hC] at e113
                have e := d117 hC
                subst e
                clear d117
                clear hdep hfree hsz hops fr oq0 oq1 oq2 oq3 oq4 oq5 oq6 oq7 oq8 oq9 oq10 oq11 oq12 oq13 oq14 oq15 oq16 oq17 oq18 oq19 oq20 oq21 oq22 oq23 oq24 oq25 oq26 oq27 oq28 oq29 oq30 oq31 oq32 oq33 oq34 oq35 oq36
                refine zai fun K hK => ?_
                go_simp
                refine hK (.bool a1) _ (Below.refl _ _) ?_
                show Value.bool _ = Value.bool _
                rw [hC]; rfl
              · rw [hC] at e113
                clear d117
                clear hdep hfree hsz hops fr oq0 oq1 oq2 oq3 oq4 oq5 oq6 oq7 oq8 oq9 oq10 oq11 oq12 oq13 oq14 oq15 oq16 oq17 oq18 oq19 oq20 oq21 oq22 oq23 oq24 oq25 oq26 oq27 oq28 oq29 oq30 oq31 oq32 oq33 oq34 oq35 oq36
                refine zai fun K hK => ?_
                go_simp
                refine hK (.bool false) _ (Below.refl _ _) ?_
                show Value.bool _ = Value.bool _
                rw [hC]; rfl
            | 9, hi =>
              obtain rfl := Option.some.inj (oq9.symm.trans hi)
              have e118 : T[118]? = some (.bool (z && a1)) := zal (by omega) (hdep 8 _ 118 (odt (by kernel_rfl)) oq8 rfl)
              refine zao rfl ?_
              clear hdep hfree hsz hops fr oq0 oq1 oq2 oq3 oq4 oq5 oq6 oq7 oq8 oq9 oq10 oq11 oq12 oq13 oq14 oq15 oq16 oq17 oq18 oq19 oq20 oq21 oq22 oq23 oq24 oq25 oq26 oq27 oq28 oq29 oq30 oq31 oq32 oq33 oq34 oq35 oq36
              refine zai fun K hK => ?_
              go_simp
              exact hK (.bool (z && a1)) _ (Below.refl _ _) (rfl)
            | 10, hi =>
              obtain rfl := Option.some.inj (oq10.symm.trans hi)
              have e3 : T[3]? = some (.pointer (some ⟨(w.heap.size + 1), 0, none⟩)) := hfree 3 (fr 3 (by kernel_rfl))
              refine zap (T := T) (j := 9) rfl oq9 rfl (hdep 9 _ 119 (odt (by kernel_rfl)) oq9 rfl) (by omega) (fun hC e119 => ?_) (fun hC h => by first | exact absurd hC (by decide) | (rw [hC] at h; cases h))
              clear hdep hfree hsz hops fr oq0 oq1 oq2 oq3 oq4 oq5 oq6 oq7 oq8 oq9 oq10 oq11 oq12 oq13 oq14 oq15 oq16 oq17 oq18 oq19 oq20 oq21 oq22 oq23 oq24 oq25 oq26 oq27 oq28 oq29 oq30 oq31 oq32 oq33 oq34 oq35 oq36
              refine zai fun K hK => ?_
              go_simp
              exact hK (.pointer (some ⟨(w.heap.size + 1), 6, none⟩)) _ (Below.refl _ _) (fun _ => rfl)
            | 11, hi =>
              obtain rfl := Option.some.inj (oq11.symm.trans hi)
              refine zap (T := T) (j := 9) rfl oq9 rfl (hdep 9 _ 119 (odt (by kernel_rfl)) oq9 rfl) (by omega) (fun hC e119 => ?_) (fun hC h => by first | exact absurd hC (by decide) | (rw [hC] at h; cases h))
              have e120 : T[120]? = some (.pointer (some ⟨(w.heap.size + 1), 6, none⟩)) := zal (by omega) (hdep 10 _ 120 (odt (by kernel_rfl)) oq10 rfl hC)
              clear hdep hfree hsz hops fr oq0 oq1 oq2 oq3 oq4 oq5 oq6 oq7 oq8 oq9 oq10 oq11 oq12 oq13 oq14 oq15 oq16 oq17 oq18 oq19 oq20 oq21 oq22 oq23 oq24 oq25 oq26 oq27 oq28 oq29 oq30 oq31 oq32 oq33 oq34 oq35 oq36
              obtain ⟨c0, c1, c2, c3, c4, c5, c6⟩ := zba (RSr.out.next hbw)
              refine zai fun K hK => ?_
              go_simp
              exact hK (.slice R s.R.length cR) _ (Below.refl _ _) (fun _ => rfl)
            | 12, hi =>
              obtain rfl := Option.some.inj (oq12.symm.trans hi)
              refine zap (T := T) (j := 9) rfl oq9 rfl (hdep 9 _ 119 (odt (by kernel_rfl)) oq9 rfl) (by omega) (fun hC e119 => ?_) (fun hC h => by first | exact absurd hC (by decide) | (rw [hC] at h; cases h))
              have e121 : T[121]? = some (.slice R s.R.length cR) := zal (by omega) (hdep 11 _ 121 (odt (by kernel_rfl)) oq11 rfl hC)
              clear hdep hfree hsz hops fr oq0 oq1 oq2 oq3 oq4 oq5 oq6 oq7 oq8 oq9 oq10 oq11 oq12 oq13 oq14 oq15 oq16 oq17 oq18 oq19 oq20 oq21 oq22 oq23 oq24 oq25 oq26 oq27 oq28 oq29 oq30 oq31 oq32 oq33 oq34 oq35 oq36
              refine zai fun K hK => ?_
              go_simp
              exact hK (.int .i64 (s.R.length : Nat)) _ (Below.refl _ _) (fun _ => rfl)
            | 13, hi =>
              obtain rfl := Option.some.inj (oq13.symm.trans hi)
              refine zap (T := T) (j := 9) rfl oq9 rfl (hdep 9 _ 119 (odt (by kernel_rfl)) oq9 rfl) (by omega) (fun hC e119 => ?_) (fun hC h => by first | exact absurd hC (by decide) | (rw [hC] at h; cases h))
              have e122 : T[122]? = some (.int .i64 (s.R.length : Nat)) := zal (by omega) (hdep 12 _ 122 (odt (by kernel_rfl)) oq12 rfl hC)
              clear hdep hfree hsz hops fr oq0 oq1 oq2 oq3 oq4 oq5 oq6 oq7 oq8 oq9 oq10 oq11 oq12 oq13 oq14 oq15 oq16 oq17 oq18 oq19 oq20 oq21 oq22 oq23 oq24 oq25 oq26 oq27 oq28 oq29 oq30 oq31 oq32 oq33 oq34 oq35 oq36
              refine zai fun K hK => ?_
              go_simp
              exact hK (.bool a2) _ (Below.refl _ _) (fun _ => rfl)
            | 14, hi =>
              obtain rfl := Option.some.inj (oq14.symm.trans hi)
              have e119 : T[119]? = some (.bool (z && a1)) := zal (by omega) (hdep 9 _ 119 (odt (by kernel_rfl)) oq9 rfl)
              have d123 : (z && a1) = true → (T.getD 123 undef) = .bool a2 := hdep 13 _ 123 (odt (by kernel_rfl)) oq13 rfl
              refine zao rfl ?_
              obtain ⟨v123, e123, g123⟩ := zbz (T := T) (t := 123) (by omega)
              rw [g123] at d123
              clear g123
              rcases Bool.eq_false_or_eq_true ((z && a1)) with hC | hC
              · rw [hC] at e119
                have e := d123 hC
                subst e
                clear d123
                clear hdep hfree hsz hops fr oq0 oq1 oq2 oq3 oq4 oq5 oq6 oq7 oq8 oq9 oq10 oq11 oq12 oq13 oq14 oq15 oq16 oq17 oq18 oq19 oq20 oq21 oq22 oq23 oq24 oq25 oq26 oq27 oq28 oq29 oq30 oq31 oq32 oq33 oq34 oq35 oq36
                refine zai fun K hK => ?_
                go_simp
                refine hK (.bool a2) _ (Below.refl _ _) ?_
                show Value.bool _ = Value.bool _
                rw [hC]; rfl
              · rw [hC] at e119
                clear d123
                clear hdep hfree hsz hops fr oq0 oq1 oq2 oq3 oq4 oq5 oq6 oq7 oq8 oq9 oq10 oq11 oq12 oq13 oq14 oq15 oq16 oq17 oq18 oq19 oq20 oq21 oq22 oq23 oq24 oq25 oq26 oq27 oq28 oq29 oq30 oq31 oq32 oq33 oq34 oq35 oq36
                refine zai fun K hK => ?_
                go_simp
                refine hK (.bool false) _ (Below.refl _ _) ?_
                show Value.bool _ = Value.bool _
                rw [hC]; rfl
            | 15, hi =>
              obtain rfl := Option.some.inj (oq15.symm.trans hi)
              have e124 : T[124]? = some (.bool ((z && a1) && a2)) := zal (by omega) (hdep 14 _ 124 (odt (by kernel_rfl)) oq14 rfl)
              refine zao rfl ?_
              clear hdep hfree hsz hops fr oq0 oq1 oq2 oq3 oq4 oq5 oq6 oq7 oq8 oq9 oq10 oq11 oq12 oq13 oq14 oq15 oq16 oq17 oq18 oq19 oq20 oq21 oq22 oq23 oq24 oq25 oq26 oq27 oq28 oq29 oq30 oq31 oq32 oq33 oq34 oq35 oq36
              refine zai fun K hK => ?_
              go_simp
              exact hK (.bool ((z && a1) && a2)) _ (Below.refl _ _) (rfl)
            | 16, hi =>
              obtain rfl := Option.some.inj (oq16.symm.trans hi)
              have e3 : T[3]? = some (.pointer (some ⟨(w.heap.size + 1), 0, none⟩)) := hfree 3 (fr 3 (by kernel_rfl))
              refine zap (T := T) (j := 15) rfl oq15 rfl (hdep 15 _ 125 (odt (by kernel_rfl)) oq15 rfl) (by omega) (fun hC e125 => ?_) (fun hC h => by first | exact absurd hC (by decide) | (rw [hC] at h; cases h))
              clear hdep hfree hsz hops fr oq0 oq1 oq2 oq3 oq4 oq5 oq6 oq7 oq8 oq9 oq10 oq11 oq12 oq13 oq14 oq15 oq16 oq17 oq18 oq19 oq20 oq21 oq22 oq23 oq24 oq25 oq26 oq27 oq28 oq29 oq30 oq31 oq32 oq33 oq34 oq35 oq36
              refine zai fun K hK => ?_
              go_simp
              exact hK (.pointer (some ⟨(w.heap.size + 1), 5, none⟩)) _ (Below.refl _ _) (fun _ => rfl)
            | 17, hi =>
              obtain rfl := Option.some.inj (oq17.symm.trans hi)
              refine zap (T := T) (j := 15) rfl oq15 rfl (hdep 15 _ 125 (odt (by kernel_rfl)) oq15 rfl) (by omega) (fun hC e125 => ?_) (fun hC h => by first | exact absurd hC (by decide) | (rw [hC] at h; cases h))
              have e126 : T[126]? = some (.pointer (some ⟨(w.heap.size + 1), 5, none⟩)) := zal (by omega) (hdep 16 _ 126 (odt (by kernel_rfl)) oq16 rfl hC)
              clear hdep hfree hsz hops fr oq0 oq1 oq2 oq3 oq4 oq5 oq6 oq7 oq8 oq9 oq10 oq11 oq12 oq13 oq14 oq15 oq16 oq17 oq18 oq19 oq20 oq21 oq22 oq23 oq24 oq25 oq26 oq27 oq28 oq29 oq30 oq31 oq32 oq33 oq34 oq35 oq36
              obtain ⟨c0, c1, c2, c3, c4, c5, c6⟩ := zba (RSr.out.next hbw)
              refine zai fun K hK => ?_
              go_simp
              exact hK (.slice D s.D.length cD) _ (Below.refl _ _) (fun _ => rfl)
            | 18, hi =>
              obtain rfl := Option.some.inj (oq18.symm.trans hi)
              have e6 : T[6]? = some (.int .i64 (p.B.length : Nat)) := hfree 6 (fr 6 (by kernel_rfl))
              refine zap (T := T) (j := 15) rfl oq15 rfl (hdep 15 _ 125 (odt (by kernel_rfl)) oq15 rfl) (by omega) (fun hC e125 => ?_) (fun hC h => by first | exact absurd hC (by decide) | (rw [hC] at h; cases h))
              clear hdep hfree hsz hops fr oq0 oq1 oq2 oq3 oq4 oq5 oq6 oq7 oq8 oq9 oq10 oq11 oq12 oq13 oq14 oq15 oq16 oq17 oq18 oq19 oq20 oq21 oq22 oq23 oq24 oq25 oq26 oq27 oq28 oq29 oq30 oq31 oq32 oq33 oq34 oq35 oq36
              refine zai fun K hK => ?_
              go_simp
              exact hK (.int .i64 (p.B.length : Nat)) _ (Below.refl _ _) (fun _ => rfl)
            | 19, hi =>
              obtain rfl := Option.some.inj (oq19.symm.trans hi)
              refine zap (T := T) (j := 15) rfl oq15 rfl (hdep 15 _ 125 (odt (by kernel_rfl)) oq15 rfl) (by omega) (fun hC e125 => ?_) (fun hC h => by first | exact absurd hC (by decide) | (rw [hC] at h; cases h))
              have e127 : T[127]? = some (.slice D s.D.length cD) := zal (by omega) (hdep 17 _ 127 (odt (by kernel_rfl)) oq17 rfl hC)
              have e128 : T[128]? = some (.int .i64 (p.B.length : Nat)) := zal (by omega) (hdep 18 _ 128 (odt (by kernel_rfl)) oq18 rfl hC)
              clear hdep hfree hsz hops fr oq0 oq1 oq2 oq3 oq4 oq5 oq6 oq7 oq8 oq9 oq10 oq11 oq12 oq13 oq14 oq15 oq16 oq17 oq18 oq19 oq20 oq21 oq22 oq23 oq24 oq25 oq26 oq27 oq28 oq29 oq30 oq31 oq32 oq33 oq34 oq35 oq36
              refine zai fun K hK => ?_
              go_simp
              refine (F2.out _ (zaa BR.out hbw)).mono ?_
              rintro e w' ⟨rfl, hb⟩
              exact hK _ w' hb (fun _ => rfl)
            | 20, hi =>
              obtain rfl := Option.some.inj (oq20.symm.trans hi)
              have e125 : T[125]? = some (.bool ((z && a1) && a2)) := zal (by omega) (hdep 15 _ 125 (odt (by kernel_rfl)) oq15 rfl)
              have d129 : ((z && a1) && a2) = true → (T.getD 129 undef) = .bool b2 := hdep 19 _ 129 (odt (by kernel_rfl)) oq19 rfl
              refine zao rfl ?_
              obtain ⟨v129, e129, g129⟩ := zbz (T := T) (t := 129) (by omega)
              rw [g129] at d129
              clear g129
              rcases Bool.eq_false_or_eq_true (((z && a1) && a2)) with hC | hC
              · rw [hC] at e125
                have e := d129 hC
                subst e
                clear d129
                clear hdep hfree hsz hops fr oq0 oq1 oq2 oq3 oq4 oq5 oq6 oq7 oq8 oq9 oq10 oq11 oq12 oq13 oq14 oq15 oq16 oq17 oq18 oq19 oq20 oq21 oq22 oq23 oq24 oq25 oq26 oq27 oq28 oq29 oq30 oq31 oq32 oq33 oq34 oq35 oq36
                refine zai fun K hK => ?_
                go_simp
                refine hK (.bool b2) _ (Below.refl _ _) ?_
                show Value.bool _ = Value.bool _
                rw [hC]; rfl
              · rw [hC] at e125
                clear d129
                clear hdep hfree hsz hops fr oq0 oq1 oq2 oq3 oq4 oq5 oq6 oq7 oq8 oq9 oq10 oq11 oq12 oq13 oq14 oq15 oq16 oq17 oq18 oq19 oq20 oq21 oq22 oq23 oq24 oq25 oq26 oq27 oq28 oq29 oq30 oq31 oq32 oq33 oq34 oq35 oq36
                refine zai fun K hK => ?_
                go_simp
                refine hK (.bool false) _ (Below.refl _ _) ?_
                show Value.bool _ = Value.bool _
                rw [hC]; rfl
            | 21, hi =>
              obtain rfl := Option.some.inj (oq21.symm.trans hi)
              have e130 : T[130]? = some (.bool (((z && a1) && a2) && b2)) := zal (by omega) (hdep 20 _ 130 (odt (by kernel_rfl)) oq20 rfl)
              refine zao rfl ?_
              clear hdep hfree hsz hops fr oq0 oq1 oq2 oq3 oq4 oq5 oq6 oq7 oq8 oq9 oq10 oq11 oq12 oq13 oq14 oq15 oq16 oq17 oq18 oq19 oq20 oq21 oq22 oq23 oq24 oq25 oq26 oq27 oq28 oq29 oq30 oq31 oq32 oq33 oq34 oq35 oq36
              refine zai fun K hK => ?_
              go_simp
              exact hK (.bool (((z && a1) && a2) && b2)) _ (Below.refl _ _) (rfl)
            | 22, hi =>
              obtain rfl := Option.some.inj (oq22.symm.trans hi)
              have e9 : T[9]? = some (.pointer (some ⟨g', 0, none⟩)) := hfree 9 (fr 9 (by kernel_rfl))
              refine zap (T := T) (j := 21) rfl oq21 rfl (hdep 21 _ 131 (odt (by kernel_rfl)) oq21 rfl) (by omega) (fun hC e131 => ?_) (fun hC h => by first | exact absurd hC (by decide) | (rw [hC] at h; cases h))
              clear hdep hfree hsz hops fr oq0 oq1 oq2 oq3 oq4 oq5 oq6 oq7 oq8 oq9 oq10 oq11 oq12 oq13 oq14 oq15 oq16 oq17 oq18 oq19 oq20 oq21 oq22 oq23 oq24 oq25 oq26 oq27 oq28 oq29 oq30 oq31 oq32 oq33 oq34 oq35 oq36
              obtain ⟨c0, c1, c2⟩ := zad (RBr.out.next hbw)
              refine zai fun K hK => ?_
              go_simp
              exact hK (.agg #[.slice A p.A.length cA, .slice B p.B.length cB, .slice AzB p.C.length czB]) _ (Below.refl _ _) (fun _ => rfl)
            | 23, hi =>
              obtain rfl := Option.some.inj (oq23.symm.trans hi)
              refine zap (T := T) (j := 21) rfl oq21 rfl (hdep 21 _ 131 (odt (by kernel_rfl)) oq21 rfl) (by omega) (fun hC e131 => ?_) (fun hC h => by first | exact absurd hC (by decide) | (rw [hC] at h; cases h))
              have e132 : T[132]? = some (.agg #[.slice A p.A.length cA, .slice B p.B.length cB, .slice AzB p.C.length czB]) := zal (by omega) (hdep 22 _ 132 (odt (by kernel_rfl)) oq22 rfl hC)
              clear hdep hfree hsz hops fr oq0 oq1 oq2 oq3 oq4 oq5 oq6 oq7 oq8 oq9 oq10 oq11 oq12 oq13 oq14 oq15 oq16 oq17 oq18 oq19 oq20 oq21 oq22 oq23 oq24 oq25 oq26 oq27 oq28 oq29 oq30 oq31 oq32 oq33 oq34 oq35 oq36
              refine zai fun K hK => ?_
              go_simp
              have hI := HI.out _ hbw
              refine (F4.out hC _ _ (zaa BR.out hbw) hI).mono ?_
              rintro e w' ⟨⟨v, rfl, hv⟩, hb⟩
              exact hK v w' hb (fun _ => hv)
            | 24, hi =>
              obtain rfl := Option.some.inj (oq24.symm.trans hi)
              have e3 : T[3]? = some (.pointer (some ⟨(w.heap.size + 1), 0, none⟩)) := hfree 3 (fr 3 (by kernel_rfl))
              refine zap (T := T) (j := 21) rfl oq21 rfl (hdep 21 _ 131 (odt (by kernel_rfl)) oq21 rfl) (by omega) (fun hC e131 => ?_) (fun hC h => by first | exact absurd hC (by decide) | (rw [hC] at h; cases h))
              clear hdep hfree hsz hops fr oq0 oq1 oq2 oq3 oq4 oq5 oq6 oq7 oq8 oq9 oq10 oq11 oq12 oq13 oq14 oq15 oq16 oq17 oq18 oq19 oq20 oq21 oq22 oq23 oq24 oq25 oq26 oq27 oq28 oq29 oq30 oq31 oq32 oq33 oq34 oq35 oq36
              refine zai fun K hK => ?_
              go_simp
              exact hK (.pointer (some ⟨(w.heap.size + 1), 5, none⟩)) _ (Below.refl _ _) (fun _ => rfl)
            | 25, hi =>
              obtain rfl := Option.some.inj (oq25.symm.trans hi)
              refine zap (T := T) (j := 21) rfl oq21 rfl (hdep 21 _ 131 (odt (by kernel_rfl)) oq21 rfl) (by omega) (fun hC e131 => ?_) (fun hC h => by first | exact absurd hC (by decide) | (rw [hC] at h; cases h))
              have e134 : T[134]? = some (.pointer (some ⟨(w.heap.size + 1), 5, none⟩)) := zal (by omega) (hdep 24 _ 134 (odt (by kernel_rfl)) oq24 rfl hC)
              clear hdep hfree hsz hops fr oq0 oq1 oq2 oq3 oq4 oq5 oq6 oq7 oq8 oq9 oq10 oq11 oq12 oq13 oq14 oq15 oq16 oq17 oq18 oq19 oq20 oq21 oq22 oq23 oq24 oq25 oq26 oq27 oq28 oq29 oq30 oq31 oq32 oq33 oq34 oq35 oq36
              obtain ⟨c0, c1, c2, c3, c4, c5, c6⟩ := zba (RSr.out.next hbw)
              refine zai fun K hK => ?_
              go_simp
              exact hK (.slice D s.D.length cD) _ (Below.refl _ _) (fun _ => rfl)
            | 26, hi =>
              obtain rfl := Option.some.inj (oq26.symm.trans hi)
              refine zap (T := T) (j := 21) rfl oq21 rfl (hdep 21 _ 131 (odt (by kernel_rfl)) oq21 rfl) (by omega) (fun hC e131 => ?_) (fun hC h => by first | exact absurd hC (by decide) | (rw [hC] at h; cases h))
              have d133 : IsP W (Old W) (T.getD 133 undef) (rawP (zca q)) := hdep 23 _ 133 (odt (by kernel_rfl)) oq23 rfl hC
              obtain ⟨v133, e133, g133⟩ := zbz (T := T) (t := 133) (by omega)
              rw [g133] at d133
              clear g133
              have e135 : T[135]? = some (.slice D s.D.length cD) := zal (by omega) (hdep 25 _ 135 (odt (by kernel_rfl)) oq25 rfl hC)
              clear hdep hfree hsz hops fr oq0 oq1 oq2 oq3 oq4 oq5 oq6 oq7 oq8 oq9 oq10 oq11 oq12 oq13 oq14 oq15 oq16 oq17 oq18 oq19 oq20 oq21 oq22 oq23 oq24 oq25 oq26 oq27 oq28 oq29 oq30 oq31 oq32 oq33 oq34 oq35 oq36
              refine zai fun K hK => ?_
              go_simp
              refine (F5.out hC _ _ (zaa BR.out hbw) d133).mono ?_
              rintro e w' ⟨rfl, hb⟩
              exact hK _ w' hb (fun _ => rfl)
            | 27, hi =>
              obtain rfl := Option.some.inj (oq27.symm.trans hi)
              have e131 : T[131]? = some (.bool (((z && a1) && a2) && b2)) := zal (by omega) (hdep 21 _ 131 (odt (by kernel_rfl)) oq21 rfl)
              have d136 : (((z && a1) && a2) && b2) = true → (T.getD 136 undef) = .bool g2 := hdep 26 _ 136 (odt (by kernel_rfl)) oq26 rfl
              refine zao rfl ?_
              obtain ⟨v136, e136, g136⟩ := zbz (T := T) (t := 136) (by omega)
              rw [g136] at d136
              clear g136
              rcases Bool.eq_false_or_eq_true ((((z && a1) && a2) && b2)) with hC | hC
              · rw [hC] at e131
                have e := d136 hC
                subst e
                clear d136
                clear hdep hfree hsz hops fr oq0 oq1 oq2 oq3 oq4 oq5 oq6 oq7 oq8 oq9 oq10 oq11 oq12 oq13 oq14 oq15 oq16 oq17 oq18 oq19 oq20 oq21 oq22 oq23 oq24 oq25 oq26 oq27 oq28 oq29 oq30 oq31 oq32 oq33 oq34 oq35 oq36
                refine zai fun K hK => ?_
                go_simp
                refine hK (.bool g2) _ (Below.refl _ _) ?_
                show Value.bool _ = Value.bool _
                rw [hC]; rfl
              · rw [hC] at e131
                clear d136
                clear hdep hfree hsz hops fr oq0 oq1 oq2 oq3 oq4 oq5 oq6 oq7 oq8 oq9 oq10 oq11 oq12 oq13 oq14 oq15 oq16 oq17 oq18 oq19 oq20 oq21 oq22 oq23 oq24 oq25 oq26 oq27 oq28 oq29 oq30 oq31 oq32 oq33 oq34 oq35 oq36
                refine zai fun K hK => ?_
                go_simp
                refine hK (.bool false) _ (Below.refl _ _) ?_
                show Value.bool _ = Value.bool _
                rw [hC]; rfl
            | 28, hi =>
              obtain rfl := Option.some.inj (oq28.symm.trans hi)
              have e137 : T[137]? = some (.bool ((((z && a1) && a2) && b2) && g2)) := zal (by omega) (hdep 27 _ 137 (odt (by kernel_rfl)) oq27 rfl)
              refine zao rfl ?_
              clear hdep hfree hsz hops fr oq0 oq1 oq2 oq3 oq4 oq5 oq6 oq7 oq8 oq9 oq10 oq11 oq12 oq13 oq14 oq15 oq16 oq17 oq18 oq19 oq20 oq21 oq22 oq23 oq24 oq25 oq26 oq27 oq28 oq29 oq30 oq31 oq32 oq33 oq34 oq35 oq36
              refine zai fun K hK => ?_
              go_simp
              exact hK (.bool ((((z && a1) && a2) && b2) && g2)) _ (Below.refl _ _) (rfl)
            | 29, hi =>
              obtain rfl := Option.some.inj (oq29.symm.trans hi)
              have e2 : T[2]? = some (.pointer (some ⟨w.heap.size, 0, none⟩)) := hfree 2 (fr 2 (by kernel_rfl))
              refine zap (T := T) (j := 28) rfl oq28 rfl (hdep 28 _ 138 (odt (by kernel_rfl)) oq28 rfl) (by omega) (fun hC e138 => ?_) (fun hC h => by first | exact absurd hC (by decide) | (rw [hC] at h; cases h))
              clear hdep hfree hsz hops fr oq0 oq1 oq2 oq3 oq4 oq5 oq6 oq7 oq8 oq9 oq10 oq11 oq12 oq13 oq14 oq15 oq16 oq17 oq18 oq19 oq20 oq21 oq22 oq23 oq24 oq25 oq26 oq27 oq28 oq29 oq30 oq31 oq32 oq33 oq34 oq35 oq36
              refine zai fun K hK => ?_
              go_simp
              exact hK (.pointer (some ⟨w.heap.size, 1, none⟩)) _ (Below.refl _ _) (fun _ => rfl)
            | 30, hi =>
              obtain rfl := Option.some.inj (oq30.symm.trans hi)
              refine zap (T := T) (j := 28) rfl oq28 rfl (hdep 28 _ 138 (odt (by kernel_rfl)) oq28 rfl) (by omega) (fun hC e138 => ?_) (fun hC h => by first | exact absurd hC (by decide) | (rw [hC] at h; cases h))
              have e139 : T[139]? = some (.pointer (some ⟨w.heap.size, 1, none⟩)) := zal (by omega) (hdep 29 _ 139 (odt (by kernel_rfl)) oq29 rfl hC)
              clear hdep hfree hsz hops fr oq0 oq1 oq2 oq3 oq4 oq5 oq6 oq7 oq8 oq9 oq10 oq11 oq12 oq13 oq14 oq15 oq16 oq17 oq18 oq19 oq20 oq21 oq22 oq23 oq24 oq25 oq26 oq27 oq28 oq29 oq30 oq31 oq32 oq33 oq34 oq35 oq36
              obtain ⟨c0, c1, c2⟩ := zad (RPr.out.next hbw)
              refine zai fun K hK => ?_
              go_simp
              exact hK (.slice B p.B.length cB) _ (Below.refl _ _) (fun _ => rfl)
            | 31, hi =>
              obtain rfl := Option.some.inj (oq31.symm.trans hi)
              have e3 : T[3]? = some (.pointer (some ⟨(w.heap.size + 1), 0, none⟩)) := hfree 3 (fr 3 (by kernel_rfl))
              refine zap (T := T) (j := 28) rfl oq28 rfl (hdep 28 _ 138 (odt (by kernel_rfl)) oq28 rfl) (by omega) (fun hC e138 => ?_) (fun hC h => by first | exact absurd hC (by decide) | (rw [hC] at h; cases h))
              clear hdep hfree hsz hops fr oq0 oq1 oq2 oq3 oq4 oq5 oq6 oq7 oq8 oq9 oq10 oq11 oq12 oq13 oq14 oq15 oq16 oq17 oq18 oq19 oq20 oq21 oq22 oq23 oq24 oq25 oq26 oq27 oq28 oq29 oq30 oq31 oq32 oq33 oq34 oq35 oq36
              refine zai fun K hK => ?_
              go_simp
              exact hK (.pointer (some ⟨(w.heap.size + 1), 5, none⟩)) _ (Below.refl _ _) (fun _ => rfl)
            | 32, hi =>
              obtain rfl := Option.some.inj (oq32.symm.trans hi)
              refine zap (T := T) (j := 28) rfl oq28 rfl (hdep 28 _ 138 (odt (by kernel_rfl)) oq28 rfl) (by omega) (fun hC e138 => ?_) (fun hC h => by first | exact absurd hC (by decide) | (rw [hC] at h; cases h))
              have e141 : T[141]? = some (.pointer (some ⟨(w.heap.size + 1), 5, none⟩)) := zal (by omega) (hdep 31 _ 141 (odt (by kernel_rfl)) oq31 rfl hC)
              clear hdep hfree hsz hops fr oq0 oq1 oq2 oq3 oq4 oq5 oq6 oq7 oq8 oq9 oq10 oq11 oq12 oq13 oq14 oq15 oq16 oq17 oq18 oq19 oq20 oq21 oq22 oq23 oq24 oq25 oq26 oq27 oq28 oq29 oq30 oq31 oq32 oq33 oq34 oq35 oq36
              obtain ⟨c0, c1, c2, c3, c4, c5, c6⟩ := zba (RSr.out.next hbw)
              refine zai fun K hK => ?_
              go_simp
              exact hK (.slice D s.D.length cD) _ (Below.refl _ _) (fun _ => rfl)
            | 33, hi =>
              obtain rfl := Option.some.inj (oq33.symm.trans hi)
              refine zap (T := T) (j := 28) rfl oq28 rfl (hdep 28 _ 138 (odt (by kernel_rfl)) oq28 rfl) (by omega) (fun hC e138 => ?_) (fun hC h => by first | exact absurd hC (by decide) | (rw [hC] at h; cases h))
              have e140 : T[140]? = some (.slice B p.B.length cB) := zal (by omega) (hdep 30 _ 140 (odt (by kernel_rfl)) oq30 rfl hC)
              have e142 : T[142]? = some (.slice D s.D.length cD) := zal (by omega) (hdep 32 _ 142 (odt (by kernel_rfl)) oq32 rfl hC)
              clear hdep hfree hsz hops fr oq0 oq1 oq2 oq3 oq4 oq5 oq6 oq7 oq8 oq9 oq10 oq11 oq12 oq13 oq14 oq15 oq16 oq17 oq18 oq19 oq20 oq21 oq22 oq23 oq24 oq25 oq26 oq27 oq28 oq29 oq30 oq31 oq32 oq33 oq34 oq35 oq36
              refine zai fun K hK => ?_
              go_simp
              refine (F8.out (andl hC) _ (zaa BR.out hbw)).mono ?_
              rintro e w' ⟨⟨v, rfl, hv⟩, hb⟩
              exact hK v w' hb (fun _ => IsQ.stb.old hv)
            | 34, hi =>
              obtain rfl := Option.some.inj (oq34.symm.trans hi)
              refine zap (T := T) (j := 28) rfl oq28 rfl (hdep 28 _ 138 (odt (by kernel_rfl)) oq28 rfl) (by omega) (fun hC e138 => ?_) (fun hC h => by first | exact absurd hC (by decide) | (rw [hC] at h; cases h))
              have d143 : IsQ W (Old W) (T.getD 143 undef) zb := hdep 33 _ 143 (odt (by kernel_rfl)) oq33 rfl hC
              obtain ⟨v143, e143, g143⟩ := zbz (T := T) (t := 143) (by omega)
              rw [g143] at d143
              clear g143
              clear hdep hfree hsz hops fr oq0 oq1 oq2 oq3 oq4 oq5 oq6 oq7 oq8 oq9 oq10 oq11 oq12 oq13 oq14 oq15 oq16 oq17 oq18 oq19 oq20 oq21 oq22 oq23 oq24 oq25 oq26 oq27 oq28 oq29 oq30 oq31 oq32 oq33 oq34 oq35 oq36
              obtain ⟨ng, A', cA', B', cB', ev, hng, _, _⟩ := zan d143
              subst ev
              refine zai fun K hK => ?_
              go_simp
              exact hK (.bool ng) _ (Below.refl _ _) (fun _ => by rw [hng.out, HSG.out])
            | 35, hi =>
              obtain rfl := Option.some.inj (oq35.symm.trans hi)
              have e138 : T[138]? = some (.bool ((((z && a1) && a2) && b2) && g2)) := zal (by omega) (hdep 28 _ 138 (odt (by kernel_rfl)) oq28 rfl)
              have d144 : ((((z && a1) && a2) && b2) && g2) = true → (T.getD 144 undef) = .bool sg := hdep 34 _ 144 (odt (by kernel_rfl)) oq34 rfl
              refine zao rfl ?_
              obtain ⟨v144, e144, g144⟩ := zbz (T := T) (t := 144) (by omega)
              rw [g144] at d144
              clear g144
              rcases Bool.eq_false_or_eq_true (((((z && a1) && a2) && b2) && g2)) with hC | hC
              · rw [hC] at e138
                have e := d144 hC
                subst e
                clear d144
                clear hdep hfree hsz hops fr oq0 oq1 oq2 oq3 oq4 oq5 oq6 oq7 oq8 oq9 oq10 oq11 oq12 oq13 oq14 oq15 oq16 oq17 oq18 oq19 oq20 oq21 oq22 oq23 oq24 oq25 oq26 oq27 oq28 oq29 oq30 oq31 oq32 oq33 oq34 oq35 oq36
                refine zai fun K hK => ?_
                go_simp
                refine hK (.bool sg) _ (Below.refl _ _) ?_
                show Value.bool _ = Value.bool _
                rw [hC]; rfl
              · rw [hC] at e138
                clear d144
                clear hdep hfree hsz hops fr oq0 oq1 oq2 oq3 oq4 oq5 oq6 oq7 oq8 oq9 oq10 oq11 oq12 oq13 oq14 oq15 oq16 oq17 oq18 oq19 oq20 oq21 oq22 oq23 oq24 oq25 oq26 oq27 oq28 oq29 oq30 oq31 oq32 oq33 oq34 oq35 oq36
                refine zai fun K hK => ?_
                go_simp
                refine hK (.bool false) _ (Below.refl _ _) ?_
                show Value.bool _ = Value.bool _
                rw [hC]; rfl
            | 36, hi =>
              obtain rfl := Option.some.inj (oq36.symm.trans hi)
              have e145 : T[145]? = some (.bool (((((z && a1) && a2) && b2) && g2) && sg)) := zal (by omega) (hdep 35 _ 145 (odt (by kernel_rfl)) oq35 rfl)
              refine zao rfl ?_
              clear hdep hfree hsz hops fr oq0 oq1 oq2 oq3 oq4 oq5 oq6 oq7 oq8 oq9 oq10 oq11 oq12 oq13 oq14 oq15 oq16 oq17 oq18 oq19 oq20 oq21 oq22 oq23 oq24 oq25 oq26 oq27 oq28 oq29 oq30 oq31 oq32 oq33 oq34 oq35 oq36
              refine zai fun K hK => ?_
              go_simp
              exact hK (.bool (((((z && a1) && a2) && b2) && g2) && sg)) _ (Below.refl _ _) (rfl)
            | _ + 37, hi => rw [hops] at hi; cases hi
          case fin =>
            intro a W hsz hdf hbw hfree hall
            obtain ⟨⟨l⟩, df⟩ := a
            replace hsz : l.length = 189 := hsz
            obtain ⟨fs, rfl⟩ := open189 hsz
            obtain rfl : df = [] := hdf
            have bs2 : fs 2 = .pointer (some ⟨w.heap.size, 0, none⟩) := Option.some.inj (hfree 2 (fr 2 (by kernel_rfl)))
            have bs3 : fs 3 = .pointer (some ⟨(w.heap.size + 1), 0, none⟩) := Option.some.inj (hfree 3 (fr 3 (by kernel_rfl)))
            have bs4 : fs 4 = .bool (((((z && a1) && a2) && b2) && g2) && sg) := hall 36 _ 4 oq36 rfl
            clear hops fr oq0 oq1 oq2 oq3 oq4 oq5 oq6 oq7 oq8 oq9 oq10 oq11 oq12 oq13 oq14 oq15 oq16 oq17 oq18 oq19 oq20 oq21 oq22 oq23 oq24 oq25 oq26 oq27 oq28 oq29 oq30 oq31 oq32 oq33 oq34 oq35 oq36
            clear hall hfree hsz
            rw [bs2, bs3, bs4]
            clear bs2 bs3 bs4
            go_wp2_with fail
            go_ret
            exact ⟨rfl, zaa BR.out hbw⟩
end Go.Proofs.YtblpaocignlpkaaGreatDoor
