/-
  The reference's accepts: status unbounded.
-/
import Derived.Test.YtblpaocignlpkaaGreatDoorProofDualAccepts08
import Derived.Test.YtblpaocignlpkaaGreatDoorProofDualAccepts06
namespace Go.Proofs.YtblpaocignlpkaaGreatDoor
open Go.RowKit
set_option linter.unusedVariables false
set_option maxRecDepth 100000 in
set_option maxHeartbeats 8000000 in
theorem raccepts_unb_of {w : World} {vp vs : Value} {p : Prog} {s : Sol} {z a1 b1 b3 g1 g3 ps : Bool} {zc : Rat} (hp : IsP w (Old w) vp p) (hs : IsSol w (Old w) vs s) (hval : chkQ s.val = 0) (hn40 : p.C.length ≤ 40) (hm40 : p.B.length ≤ 40) (hst : s.st = 3)
    (ha1 : a1 = decide (s.D.length = 0))
    (f1 : ∀ v, IsR w (Old w) v s.val → ∀ W, Below w.heap.size w W → Calls Tryz.prog 69 #[v] W fun e w' => e = .returned (.bool z) ∧ Below W.heap.size W w')
    (f2 : ∀ v, IsV w (Old w) v s.X → ∀ W, Below w.heap.size w W → Calls Tryz.prog 111 #[v, .int .i64 (p.C.length : Nat)] W fun e w' => e = .returned (.bool b1) ∧ Below W.heap.size W w')
    (f3 : ∀ v, IsV w (Old w) v s.R → ∀ W, Below w.heap.size w W → Calls Tryz.prog 111 #[v, .int .i64 (p.C.length : Nat)] W fun e w' => e = .returned (.bool b3) ∧ Below W.heap.size W w')
    (f4 : (((z && a1) && b1) && b3) = true → ∀ vx, IsV w (Old w) vx s.X → ∀ W, Below w.heap.size w W → Calls Tryz.prog 77 #[vp, vx] W fun e w' => e = .returned (.bool g1) ∧ Below W.heap.size W w')
    (f5 : (((z && a1) && b1) && b3) = true → ∀ vx, IsV w (Old w) vx s.R → ∀ W v, Below w.heap.size w W → IsP W (Old W) v ⟨p.A, rawV (zbj p.B.length), p.C⟩ → Calls Tryz.prog 77 #[v, vx] W fun e w' => e = .returned (.bool g3) ∧ Below W.heap.size W w')
    (f6 : (((z && a1) && b1) && b3) = true → ∀ va vb, IsV w (Old w) va p.C → IsV w (Old w) vb s.R → ∀ W, Below w.heap.size w W → Calls Tryz.prog 62 #[va, vb] W (RetQ W zc))
    (f7 : (((z && a1) && b1) && b3) = true → ∀ W v, Below w.heap.size w W → IsQ W (Old W) v zc → Calls Tryz.prog 113 #[v] W fun e w' => e = .returned (.bool ps) ∧ Below W.heap.size W w') :
    Calls Tryz.prog 55 #[vp, vs] w fun e w' => e = .returned (.bool ((((((z && a1) && b1) && b3) && g1) && g3) && ps)) ∧ Below w.heap.size w w' := by
  have HV := Lib.hid hval
  clear hval
  have HA1 := Lib.hid ha1
  have F1' := Lib.hid f1
  have F2' := Lib.hid f2
  have F3' := Lib.hid f3
  have F4' := Lib.hid f4
  have F5' := Lib.hid f5
  have F6' := Lib.hid f6
  have F7 := Lib.hid f7
  clear ha1 f1 f2 f3 f4 f5 f6 f7
  have hps : ∃ A cA B cB C cC P cP Q cQ X cX D cD R cR, vp = .agg #[.slice A p.A.length cA, .slice B p.B.length cB, .slice C p.C.length cC] ∧ vs = .agg #[.int .i64 s.st, .bool s.val.neg, .slice P s.val.num.length cP, .slice Q s.val.den.length cQ, .slice X s.X.length cX, .slice D s.D.length cD, .slice R s.R.length cR] ∧ IsPS w (Old w) (.agg #[.slice A p.A.length cA, .slice B p.B.length cB, .slice C p.C.length cC, .int .i64 s.st, .bool s.val.neg, .slice P s.val.num.length cP, .slice Q s.val.den.length cQ, .slice X s.X.length cX, .slice D s.D.length cD, .slice R s.R.length cR]) p s := by
    obtain ⟨A, cA, B, cB, C, cC, rfl, h1, h2, h3⟩ := hp
    obtain ⟨P, cP, Q, cQ, X, cX, D, cD, R, cR, rfl, h4, h5, h6, h7⟩ := hs
    exact ⟨A, cA, B, cB, C, cC, P, cP, Q, cQ, X, cX, D, cD, R, cR, rfl, rfl, A, cA, B, cB, C, cC, P, cP, Q, cQ, X, cX, D, cD, R, cR, rfl, h1, h2, h3, h4, h5, h6, h7⟩
  have HP := Lib.hid hp
  have HVR : Hid (∀ P cP Q cQ X cX D cD R cR, vs = .agg #[.int .i64 s.st, .bool s.val.neg, .slice P s.val.num.length cP, .slice Q s.val.den.length cQ, .slice X s.X.length cX, .slice D s.D.length cD, .slice R s.R.length cR] → IsR w (Old w) (.agg #[.bool s.val.neg, .slice P s.val.num.length cP, .slice Q s.val.den.length cQ]) s.val) := by
    intro P cP Q cQ X cX D cD R cR e
    obtain ⟨P', cP', Q', cQ', X', cX', D', cD', R', cR', e', h4, _⟩ := hs
    rw [e] at e'
    cases e'
    exact h4
  clear hp hs
  obtain ⟨A, cA, B, cB, C, cC, P, cP, Q, cQ, X, cX, D, cD, R, cR, rfl, rfl, hv⟩ := hps
  have HR := Lib.hid (HVR.out _ _ _ _ _ _ _ _ _ _ rfl)
  have HPS := Lib.hid (isPS_parts hv)
  clear HVR hv
  rw [hst] at *
  obtain ⟨w0, hw0, hb0, rP, rS, Hz⟩ := zcl w #[.slice A p.A.length cA, .slice B p.B.length cB, .slice C p.C.length cC] #[.int .i64 3, .bool s.val.neg, .slice P s.val.num.length cP, .slice Q s.val.den.length cQ, .slice X s.X.length cX, .slice D s.D.length cD, .slice R s.R.length cR] 27 33
  have HB0 := Lib.hid hb0
  have RP := Lib.hid rP
  have RS := Lib.hid rS
  obtain ⟨p0, p1, p2⟩ := zad rP
  obtain ⟨s0, s1, s2, s3, s4, s5, s6⟩ := zba rS
  clear hb0 rP rS
  go_enter Tryz.func55, Tryz.ntmps55
  go_wp2_with fail
  clear hw0
  go_region
  have hd := zac w0
  obtain ⟨wd, hwd⟩ : ∃ x, x = w0.drew := ⟨_, rfl⟩
  rw [← hwd] at hd ⊢
  have HBd := Lib.hid (zaa HB0.out hd)
  have RPd := Lib.hid (RP.out.next hd)
  have RSd := Lib.hid (RS.out.next hd)
  have hzd : w0.heap.size ≤ wd.heap.size := hd.size
  clear p0 p1 p2 s0 s1 s2 s3 s4 s5 s6 hd hwd RP RS HB0
  obtain ⟨p0, p1, p2⟩ := zad RPd.out
  obtain ⟨s0, s1, s2, s3, s4, s5, s6⟩ := zba RSd.out
  go_wp2_with fail
  refine (rcheck_q (IsR.stb.to HR.out (zag HBd.out))).mono ?_
  rw [HV.out]
  rintro e w1 ⟨rfl, hb⟩
  obtain ⟨z0, hz0⟩ : ∃ z : Rat, z = 0 := ⟨_, rfl⟩
  have HZ0 := Lib.hid hz0
  have HW : Hid (∀ W : World, Calls Tryz.prog 110 #[.int .i64 0] W (RetQ W z0)) := fun W => by rw [HZ0.out]; exact whole0_q W
  clear hz0
  obtain ⟨wE, hwE, hbE, rE, HzE⟩ := zbm w1 #[.slice none 0 0, .slice none 0 0, .slice none 0 0] 27
  obtain ⟨w2, hw2, hb2, r2, _, hz2⟩ := finP (wB := wd) (w5 := wE) (X := w1) (g := w1.heap.size) (a := .slice A p.A.length cA) (b := .slice none 0 0) (c := .slice C p.C.length cC) (zaa hb hbE) hb (by rw [hwE]; exact Below.refl _ _) rfl
  have p0 := zab hb p0
  have p1 := zab hb p1
  have p2 := zab hb p2
  have s0 := zab hb s0
  have p0 := zab hbE p0
  have p1 := zab hbE p1
  have p2 := zab hbE p2
  obtain ⟨d0, d1, d2⟩ := zad rE
  obtain ⟨f0, f1, f2⟩ := zax rE
  go_wp2_with fail
  obtain ⟨g, hg⟩ : ∃ g, g = w1.heap.size := ⟨_, rfl⟩
  rw [← hg] at r2 hz2 ⊢
  have BH := Lib.hid hb2
  have RH := Lib.hid r2
  have GH : Hid (g < w2.heap.size) := r2.lt
  have GwH : Hid (wd.heap.size ≤ g) := hz2.out.1
  clear hw2 hwE hb hbE rE hb2 r2 hz2 hg p0 p1 p2 s0 s1 s2 s3 s4 s5 s6 d0 d1 d2 f0 f1 f2 HzE
  go_loopw [8] (fun i wr => ∃ (j : Nat) (S : Nat → Prop) (va : Value), j ≤ p.B.length ∧ i = .int .i64 (j : Int) ∧ Below wd.heap.size wd wr ∧ w2.grownBy wr (some g) ∧ Row wr g 27 [.slice A p.A.length cA, va, .slice C p.C.length cC] ∧ OwnS 3 31 IsR wr w2.heap.size S va (rawV (zbj j)) ∧ Hid (∀ b, S b → w2.heap.size ≤ b)) (fun i _ => p.B.length - (intOf i).toNat)
  case atStart => exact ⟨0, fun _ => False, _, Nat.zero_le _, rfl, BH.out, zdr (Below.refl _ _), RH.out, by simpa [rawV, zbj] using (OwnS.nil (fun b h => False.elim h) : OwnS 3 31 IsR w2 w2.heap.size (fun _ => False) _ _), fun b h => False.elim h⟩
  case round =>
    obtain ⟨j, S, va, hj, rfl, hbw, hgr, hrow, hown, hS⟩ := hrel
    have Hbw := Lib.hid hbw
    have Hgr := Lib.hid hgr
    have HRw := Lib.hid hrow
    have HS1 := Lib.hid hS.out
    have Hown := Lib.hid hown
    have hszE := hgr.size
    have hgb : g < w2.heap.size := GH.out
    have hgw : wd.heap.size ≤ g := GwH.out
    obtain ⟨AzH, czH, hva⟩ := hown.slice
    rw [zay, zbk] at hva
    subst hva
    obtain ⟨g0, g1, g2⟩ := zad hrow
    clear hS hgr hrow hown hbw
    rcases Nat.lt_or_ge j p.B.length with hlt | hge
    · go_wp2_with fail
      go_region_law (first
          | ((rw [if_pos (by rfl)]); go_simp; go_at_call 110; (with_reducible refine Calls.mono (HW.out _) ?_); rintro e w3 ⟨⟨v3, rfl, hv3⟩, hb3⟩; obtain ⟨s3, P3, k3, O3, l3, rfl, _, _, _⟩ := zan hv3; clear g0 g1 g2; have hB4 : Below wr.heap.size wr w3 := (by (repeat (first | exact Below.refl _ _ | assumption | refine zae ?_ _ | refine zah ?_ | refine zaf ?_ ?_ _ _ _ | refine zaj ?_ (by omega) | refine zaa ?_ (by assumption))); (first | done | fail)); obtain ⟨g0, g1, g2⟩ := zad (Row.next HRw.out hB4 : Row w3 _ _ _); have hs4 := hB4.size; have HO := Lib.hid (OwnS.step IsR.stb (T := fun b => S b ∨ (wr.heap.size ≤ b ∧ b < w3.heap.size)) Hown.out hB4 (fun b h => .inl h) (fun b h => h)); have HE := Lib.hid (IsR.stb.to (show IsR w3 (New wr.heap.size w3) _ (raw z0) from hv3) (zat (T := fun b => S b ∨ (wr.heap.size ≤ b ∧ b < w3.heap.size)) fun b h => .inr h)); have hb4w : w2.heap.size ≤ w3.heap.size := (by omega); have R4 := Lib.hid (Row.next HRw.out hB4); have ga0 := zab (zas w3 (.cells #[.bool s3, .slice P3 (lim z0.num.natAbs).length k3, .slice O3 (lim z0.den).length l3] 31)) g1; (try dsimp only))
          | (refine zfd elR rfl _ _ rfl IsR.stb rfl rfl rfl HO.out HE.out (by rfl) (by intro u hu; simp [Value.cells] at hu; rcases hu with rfl | rfl | rfl <;> rfl) (by rw [zay, zbk]; omega) hb4w ?_; intro v5 w5 hown5 hb5 hz5; obtain ⟨A5, c5, hA5⟩ := hown5.slice; rw [List.length_append, List.length_singleton, zay, zbk] at hA5; subst hA5; have R5 := Row.below R4.out hb5 hgb; obtain ⟨h0, h1, h2⟩ := zad R5; obtain ⟨y0, y1, y2⟩ := zax R5))
      all_goals
        go_wp2_with fail
        go_roundw
        case rel =>
          have hS7 : ∀ b, (S b ∨ (wr.heap.size ≤ b ∧ b < w3.heap.size)) → w2.heap.size ≤ b := fun b hb => by rcases hb with hb | hb; exact HS1.out b hb; omega
          refine ⟨j + 1, fun b => S b ∨ (wr.heap.size ≤ b ∧ b < w3.heap.size), _, by omega, by go_num, (zaa Hbw.out hB4).trans ((hb5.mono (by omega)).setCell (p := ⟨g, 1, none⟩) (by show _ ≤ g; omega) _), (zee Hgr.out ((hB4.mono hszE).trans hb5)).trans (zcn _ g 1 _), R5.set_ 1 _, ?_, hS7⟩
          refine OwnS.stepG IsR.stb ?_ (zcn _ g 1 _) hgb (fun b h => by have := hS7 b h; omega)
          have e : rawV (zbj (j + 1)) = rawV (zbj j) ++ [raw z0] := by rw [zfb, rawV_snoc, HZ0.out]
          rw [e]
          exact hown5
        case measure => simp [intOf]; omega
    · have ej : j = p.B.length := by omega
      clear g0 g1 g2
      rw [ej] at Hown HRw
      have HZH : Hid (IsV wr (fun b => w2.heap.size ≤ b ∧ b < wr.heap.size) (.slice AzH p.B.length czH) (rawV (zbj p.B.length))) := by
        have h := Hown.out
        exact OwnS.isS IsR.stb h (fun b hb => by obtain ⟨_, _, _, _, h4⟩ := h; exact ⟨HS1.out b hb, (h4 b hb).1⟩) (fun b h1 h2 => ⟨h1, h2⟩)
      clear Hown HS1
      obtain ⟨hPA, hPB, hPC, hPV, hPX, hPD, hPR⟩ := HPS.out
      have F1 : Hid _ := F1'.out _ hPV
      have F2 : Hid _ := F2'.out _ hPX
      have F3 : Hid _ := F3'.out _ hPR
      have F4 : Hid _ := fun h => F4'.out h _ hPX
      have F5 : Hid _ := fun h => F5'.out h _ hPR
      have F6 : Hid _ := fun h => F6'.out h _ _ hPC hPR
      have BR := Lib.hid (zaa HBd.out Hbw.out)
      have HI : Hid (∀ W, Below wr.heap.size wr W → IsP W (Old W) (.agg #[.slice A p.A.length cA, .slice AzH p.B.length czH, .slice C p.C.length cC]) ⟨p.A, rawV (zbj p.B.length), p.C⟩) := fun W hW => by
        have hz := zay (zbj p.B.length)
        rw [zbk] at hz
        have h3 := IsV.stb.to (IsV.stb.to HZH.out (zbq hW fun b h => h.2)) (zat (T := Old W) fun b h => Nat.lt_of_lt_of_le h.2 hW.size)
        exact isP_mk (p := ⟨p.A, rawV (zbj p.B.length), p.C⟩) (IsM.stb.to hPA (zag (zaa BR.out hW))) h3 (IsV.stb.to hPC (zag (zaa BR.out hW)))
      have R1 := Lib.hid (RPd.out.next Hbw.out)
      have R2 := Lib.hid (RSd.out.next Hbw.out)
      have R3 := Lib.hid HRw.out
      have BZ := Lib.hid (Below.refl wr.heap.size wr)
      clear F1' F2' F3' F4' F5' F6' hPA hPB hPC hPV hPX hPD hPR HPS HR HP RPd RSd HBd Hgr BH RH HZH HRw Hbw
      have e1 : (((s.D.length : Nat) : Int) == 0) = a1 := by rw [HA1.out]; exact len_eq0
      obtain ⟨p0, p1, p2⟩ := zad R1.out
      obtain ⟨s0, s1, s2, s3, s4, s5, s6⟩ := zba R2.out
      obtain ⟨t0, t1, t2⟩ := zad R3.out
      cases a1 with
      | false =>
        go_wp2_with fail
        refine (F1.out _ BR.out).mono ?_
        rintro e x0 ⟨rfl, hb⟩
        replace BR := Lib.hid (zaa BR.out hb)
        replace BZ := Lib.hid (zaa BZ.out hb)
        replace R1 := Lib.hid (R1.out.next hb)
        replace R2 := Lib.hid (R2.out.next hb)
        replace R3 := Lib.hid (R3.out.next hb)
        clear p0 p1 p2 s0 s1 s2 s3 s4 s5 s6 t0 t1 t2 hb
        obtain ⟨p0, p1, p2⟩ := zad R1.out
        obtain ⟨s0, s1, s2, s3, s4, s5, s6⟩ := zba R2.out
        obtain ⟨t0, t1, t2⟩ := zad R3.out
        cases z
        all_goals
          go_wp2_with fail
          go_ret
          exact ⟨rfl, BR.out⟩
      | true =>
        go_wp2_with fail
        refine (F1.out _ BR.out).mono ?_
        rintro e x1 ⟨rfl, hb⟩
        replace BR := Lib.hid (zaa BR.out hb)
        replace BZ := Lib.hid (zaa BZ.out hb)
        replace R1 := Lib.hid (R1.out.next hb)
        replace R2 := Lib.hid (R2.out.next hb)
        replace R3 := Lib.hid (R3.out.next hb)
        clear p0 p1 p2 s0 s1 s2 s3 s4 s5 s6 t0 t1 t2 hb
        obtain ⟨p0, p1, p2⟩ := zad R1.out
        obtain ⟨s0, s1, s2, s3, s4, s5, s6⟩ := zba R2.out
        obtain ⟨t0, t1, t2⟩ := zad R3.out
        cases z with
        | false =>
          go_wp2_with fail
          go_ret
          exact ⟨rfl, BR.out⟩
        | true =>
          go_wp2_with fail
          refine (F2.out _ BR.out).mono ?_
          rintro e x2 ⟨rfl, hb⟩
          replace BR := Lib.hid (zaa BR.out hb)
          replace BZ := Lib.hid (zaa BZ.out hb)
          replace R1 := Lib.hid (R1.out.next hb)
          replace R2 := Lib.hid (R2.out.next hb)
          replace R3 := Lib.hid (R3.out.next hb)
          clear p0 p1 p2 s0 s1 s2 s3 s4 s5 s6 t0 t1 t2 hb
          obtain ⟨p0, p1, p2⟩ := zad R1.out
          obtain ⟨s0, s1, s2, s3, s4, s5, s6⟩ := zba R2.out
          obtain ⟨t0, t1, t2⟩ := zad R3.out
          cases b1 with
          | false =>
            go_wp2_with fail
            go_ret
            exact ⟨rfl, BR.out⟩
          | true =>
            go_wp2_with fail
            refine (F3.out _ BR.out).mono ?_
            rintro e x3 ⟨rfl, hb⟩
            replace BR := Lib.hid (zaa BR.out hb)
            replace BZ := Lib.hid (zaa BZ.out hb)
            replace R1 := Lib.hid (R1.out.next hb)
            replace R2 := Lib.hid (R2.out.next hb)
            replace R3 := Lib.hid (R3.out.next hb)
            clear p0 p1 p2 s0 s1 s2 s3 s4 s5 s6 t0 t1 t2 hb
            obtain ⟨p0, p1, p2⟩ := zad R1.out
            obtain ⟨s0, s1, s2, s3, s4, s5, s6⟩ := zba R2.out
            obtain ⟨t0, t1, t2⟩ := zad R3.out
            cases b3 with
            | false =>
              go_wp2_with fail
              go_ret
              exact ⟨rfl, BR.out⟩
            | true =>
              go_wp2_with fail
              refine (F4.out rfl _ BR.out).mono ?_
              rintro e x4 ⟨rfl, hb⟩
              replace BR := Lib.hid (zaa BR.out hb)
              replace BZ := Lib.hid (zaa BZ.out hb)
              replace R1 := Lib.hid (R1.out.next hb)
              replace R2 := Lib.hid (R2.out.next hb)
              replace R3 := Lib.hid (R3.out.next hb)
              clear p0 p1 p2 s0 s1 s2 s3 s4 s5 s6 t0 t1 t2 hb
              obtain ⟨p0, p1, p2⟩ := zad R1.out
              obtain ⟨s0, s1, s2, s3, s4, s5, s6⟩ := zba R2.out
              obtain ⟨t0, t1, t2⟩ := zad R3.out
              cases g1 with
              | false =>
                go_wp2_with fail
                go_ret
                exact ⟨rfl, BR.out⟩
              | true =>
                go_wp2_with fail
                refine (F5.out rfl _ _ BR.out (HI.out _ BZ.out)).mono ?_
                rintro e x5 ⟨rfl, hb⟩
                replace BR := Lib.hid (zaa BR.out hb)
                replace BZ := Lib.hid (zaa BZ.out hb)
                replace R1 := Lib.hid (R1.out.next hb)
                replace R2 := Lib.hid (R2.out.next hb)
                replace R3 := Lib.hid (R3.out.next hb)
                clear p0 p1 p2 s0 s1 s2 s3 s4 s5 s6 t0 t1 t2 hb
                obtain ⟨p0, p1, p2⟩ := zad R1.out
                obtain ⟨s0, s1, s2, s3, s4, s5, s6⟩ := zba R2.out
                obtain ⟨t0, t1, t2⟩ := zad R3.out
                cases g3 with
                | false =>
                  go_wp2_with fail
                  go_ret
                  exact ⟨rfl, BR.out⟩
                | true =>
                  go_wp2_with fail
                  refine (F6.out rfl _ BR.out).mono ?_
                  rintro e y ⟨⟨v, rfl, hv⟩, hb⟩
                  have HQ := Lib.hid (IsQ.stb.old hv)
                  obtain ⟨ng, P', k', O', l', rfl, _, _, _⟩ := zan hv
                  clear hv
                  replace BR := Lib.hid (zaa BR.out hb)
                  replace BZ := Lib.hid (zaa BZ.out hb)
                  replace R1 := Lib.hid (R1.out.next hb)
                  replace R2 := Lib.hid (R2.out.next hb)
                  replace R3 := Lib.hid (R3.out.next hb)
                  clear p0 p1 p2 s0 s1 s2 s3 s4 s5 s6 t0 t1 t2 hb
                  obtain ⟨p0, p1, p2⟩ := zad R1.out
                  obtain ⟨s0, s1, s2, s3, s4, s5, s6⟩ := zba R2.out
                  obtain ⟨t0, t1, t2⟩ := zad R3.out
                  go_wp2_with fail
                  refine (F7.out rfl _ _ BR.out HQ.out).mono ?_
                  rintro e y' ⟨rfl, hb⟩
                  replace BR := Lib.hid (zaa BR.out hb)
                  go_wp2_with fail
                  go_ret
                  exact ⟨rfl, BR.out⟩
set_option maxRecDepth 100000 in
set_option maxHeartbeats 8000000 in
theorem raccepts_none {w : World} {vp vs : Value} {p : Prog} {s : Sol} (hp : IsP w (Old w) vp p) (hs : IsSol w (Old w) vs s) (hval : chkQ s.val = 0) (hn40 : p.C.length ≤ 40) (hm40 : p.B.length ≤ 40) (hst : s.st ≠ 1 ∧ s.st ≠ 2 ∧ s.st ≠ 3) :
    Calls Tryz.prog 55 #[vp, vs] w fun e w' => e = .returned (.bool false) ∧ Below w.heap.size w w' := by
  have HV := Lib.hid hval
  have HST := Lib.hid hst
  clear hval hst
  have hps : ∃ A cA B cB C cC P cP Q cQ X cX D cD R cR, vp = .agg #[.slice A p.A.length cA, .slice B p.B.length cB, .slice C p.C.length cC] ∧ vs = .agg #[.int .i64 s.st, .bool s.val.neg, .slice P s.val.num.length cP, .slice Q s.val.den.length cQ, .slice X s.X.length cX, .slice D s.D.length cD, .slice R s.R.length cR] ∧ IsPS w (Old w) (.agg #[.slice A p.A.length cA, .slice B p.B.length cB, .slice C p.C.length cC, .int .i64 s.st, .bool s.val.neg, .slice P s.val.num.length cP, .slice Q s.val.den.length cQ, .slice X s.X.length cX, .slice D s.D.length cD, .slice R s.R.length cR]) p s := by
    obtain ⟨A, cA, B, cB, C, cC, rfl, h1, h2, h3⟩ := hp
    obtain ⟨P, cP, Q, cQ, X, cX, D, cD, R, cR, rfl, h4, h5, h6, h7⟩ := hs
    exact ⟨A, cA, B, cB, C, cC, P, cP, Q, cQ, X, cX, D, cD, R, cR, rfl, rfl, A, cA, B, cB, C, cC, P, cP, Q, cQ, X, cX, D, cD, R, cR, rfl, h1, h2, h3, h4, h5, h6, h7⟩
  have HP := Lib.hid hp
  have HVR : Hid (∀ P cP Q cQ X cX D cD R cR, vs = .agg #[.int .i64 s.st, .bool s.val.neg, .slice P s.val.num.length cP, .slice Q s.val.den.length cQ, .slice X s.X.length cX, .slice D s.D.length cD, .slice R s.R.length cR] → IsR w (Old w) (.agg #[.bool s.val.neg, .slice P s.val.num.length cP, .slice Q s.val.den.length cQ]) s.val) := by
    intro P cP Q cQ X cX D cD R cR e
    obtain ⟨P', cP', Q', cQ', X', cX', D', cD', R', cR', e', h4, _⟩ := hs
    rw [e] at e'
    cases e'
    exact h4
  clear hp hs
  obtain ⟨A, cA, B, cB, C, cC, P, cP, Q, cQ, X, cX, D, cD, R, cR, rfl, rfl, hv⟩ := hps
  have HR := Lib.hid (HVR.out _ _ _ _ _ _ _ _ _ _ rfl)
  have HPS := Lib.hid (isPS_parts hv)
  clear HVR hv
  obtain ⟨w0, hw0, hb0, rP, rS, Hz⟩ := zcl w #[.slice A p.A.length cA, .slice B p.B.length cB, .slice C p.C.length cC] #[.int .i64 s.st, .bool s.val.neg, .slice P s.val.num.length cP, .slice Q s.val.den.length cQ, .slice X s.X.length cX, .slice D s.D.length cD, .slice R s.R.length cR] 27 33
  have HB0 := Lib.hid hb0
  have RP := Lib.hid rP
  have RS := Lib.hid rS
  obtain ⟨p0, p1, p2⟩ := zad rP
  obtain ⟨s0, s1, s2, s3, s4, s5, s6⟩ := zba rS
  clear hb0 rP rS
  go_enter Tryz.func55, Tryz.ntmps55
  go_wp2_with fail
  clear hw0
  go_region
  have hd := zac w0
  obtain ⟨wd, hwd⟩ : ∃ x, x = w0.drew := ⟨_, rfl⟩
  rw [← hwd] at hd ⊢
  have HBd := Lib.hid (zaa HB0.out hd)
  have RPd := Lib.hid (RP.out.next hd)
  have RSd := Lib.hid (RS.out.next hd)
  have hzd : w0.heap.size ≤ wd.heap.size := hd.size
  clear p0 p1 p2 s0 s1 s2 s3 s4 s5 s6 hd hwd RP RS HB0
  obtain ⟨p0, p1, p2⟩ := zad RPd.out
  obtain ⟨s0, s1, s2, s3, s4, s5, s6⟩ := zba RSd.out
  go_wp2_with fail
  refine (rcheck_q (IsR.stb.to HR.out (zag HBd.out))).mono ?_
  rw [HV.out]
  rintro e w1 ⟨rfl, hb⟩
  obtain ⟨z0, hz0⟩ : ∃ z : Rat, z = 0 := ⟨_, rfl⟩
  have HZ0 := Lib.hid hz0
  have HW : Hid (∀ W : World, Calls Tryz.prog 110 #[.int .i64 0] W (RetQ W z0)) := fun W => by rw [HZ0.out]; exact whole0_q W
  clear hz0
  obtain ⟨wE, hwE, hbE, rE, HzE⟩ := zbm w1 #[.slice none 0 0, .slice none 0 0, .slice none 0 0] 27
  obtain ⟨w2, hw2, hb2, r2, _, hz2⟩ := finP (wB := wd) (w5 := wE) (X := w1) (g := w1.heap.size) (a := .slice A p.A.length cA) (b := .slice none 0 0) (c := .slice C p.C.length cC) (zaa hb hbE) hb (by rw [hwE]; exact Below.refl _ _) rfl
  have p0 := zab hb p0
  have p1 := zab hb p1
  have p2 := zab hb p2
  have s0 := zab hb s0
  have p0 := zab hbE p0
  have p1 := zab hbE p1
  have p2 := zab hbE p2
  obtain ⟨d0, d1, d2⟩ := zad rE
  obtain ⟨f0, f1, f2⟩ := zax rE
  go_wp2_with fail
  obtain ⟨g, hg⟩ : ∃ g, g = w1.heap.size := ⟨_, rfl⟩
  rw [← hg] at r2 hz2 ⊢
  have BH := Lib.hid hb2
  have RH := Lib.hid r2
  have GH : Hid (g < w2.heap.size) := r2.lt
  have GwH : Hid (wd.heap.size ≤ g) := hz2.out.1
  clear hw2 hwE hb hbE rE hb2 r2 hz2 hg p0 p1 p2 s0 s1 s2 s3 s4 s5 s6 d0 d1 d2 f0 f1 f2 HzE
  go_loopw [8] (fun i wr => ∃ (j : Nat) (S : Nat → Prop) (va : Value), j ≤ p.B.length ∧ i = .int .i64 (j : Int) ∧ Below wd.heap.size wd wr ∧ w2.grownBy wr (some g) ∧ Row wr g 27 [.slice A p.A.length cA, va, .slice C p.C.length cC] ∧ OwnS 3 31 IsR wr w2.heap.size S va (rawV (zbj j)) ∧ Hid (∀ b, S b → w2.heap.size ≤ b)) (fun i _ => p.B.length - (intOf i).toNat)
  case atStart => exact ⟨0, fun _ => False, _, Nat.zero_le _, rfl, BH.out, zdr (Below.refl _ _), RH.out, by simpa [rawV, zbj] using (OwnS.nil (fun b h => False.elim h) : OwnS 3 31 IsR w2 w2.heap.size (fun _ => False) _ _), fun b h => False.elim h⟩
  case round =>
    obtain ⟨j, S, va, hj, rfl, hbw, hgr, hrow, hown, hS⟩ := hrel
    have Hbw := Lib.hid hbw
    have Hgr := Lib.hid hgr
    have HRw := Lib.hid hrow
    have HS1 := Lib.hid hS.out
    have Hown := Lib.hid hown
    have hszE := hgr.size
    have hgb : g < w2.heap.size := GH.out
    have hgw : wd.heap.size ≤ g := GwH.out
    obtain ⟨AzH, czH, hva⟩ := hown.slice
    rw [zay, zbk] at hva
    subst hva
    obtain ⟨g0, g1, g2⟩ := zad hrow
    clear hS hgr hrow hown hbw
    rcases Nat.lt_or_ge j p.B.length with hlt | hge
    · go_wp2_with fail
      go_region_law (first
          | ((rw [if_pos (by rfl)]); go_simp; go_at_call 110; (with_reducible refine Calls.mono (HW.out _) ?_); rintro e w3 ⟨⟨v3, rfl, hv3⟩, hb3⟩; obtain ⟨s3, P3, k3, O3, l3, rfl, _, _, _⟩ := zan hv3; clear g0 g1 g2; have hB4 : Below wr.heap.size wr w3 := (by (repeat (first | exact Below.refl _ _ | assumption | refine zae ?_ _ | refine zah ?_ | refine zaf ?_ ?_ _ _ _ | refine zaj ?_ (by omega) | refine zaa ?_ (by assumption))); (first | done | fail)); obtain ⟨g0, g1, g2⟩ := zad (Row.next HRw.out hB4 : Row w3 _ _ _); have hs4 := hB4.size; have HO := Lib.hid (OwnS.step IsR.stb (T := fun b => S b ∨ (wr.heap.size ≤ b ∧ b < w3.heap.size)) Hown.out hB4 (fun b h => .inl h) (fun b h => h)); have HE := Lib.hid (IsR.stb.to (show IsR w3 (New wr.heap.size w3) _ (raw z0) from hv3) (zat (T := fun b => S b ∨ (wr.heap.size ≤ b ∧ b < w3.heap.size)) fun b h => .inr h)); have hb4w : w2.heap.size ≤ w3.heap.size := (by omega); have R4 := Lib.hid (Row.next HRw.out hB4); have ga0 := zab (zas w3 (.cells #[.bool s3, .slice P3 (lim z0.num.natAbs).length k3, .slice O3 (lim z0.den).length l3] 31)) g1; (try dsimp only))
          | (refine zfd elR rfl _ _ rfl IsR.stb rfl rfl rfl HO.out HE.out (by rfl) (by intro u hu; simp [Value.cells] at hu; rcases hu with rfl | rfl | rfl <;> rfl) (by rw [zay, zbk]; omega) hb4w ?_; intro v5 w5 hown5 hb5 hz5; obtain ⟨A5, c5, hA5⟩ := hown5.slice; rw [List.length_append, List.length_singleton, zay, zbk] at hA5; subst hA5; have R5 := Row.below R4.out hb5 hgb; obtain ⟨h0, h1, h2⟩ := zad R5; obtain ⟨y0, y1, y2⟩ := zax R5))
      all_goals
        go_wp2_with fail
        go_roundw
        case rel =>
          have hS7 : ∀ b, (S b ∨ (wr.heap.size ≤ b ∧ b < w3.heap.size)) → w2.heap.size ≤ b := fun b hb => by rcases hb with hb | hb; exact HS1.out b hb; omega
          refine ⟨j + 1, fun b => S b ∨ (wr.heap.size ≤ b ∧ b < w3.heap.size), _, by omega, by go_num, (zaa Hbw.out hB4).trans ((hb5.mono (by omega)).setCell (p := ⟨g, 1, none⟩) (by show _ ≤ g; omega) _), (zee Hgr.out ((hB4.mono hszE).trans hb5)).trans (zcn _ g 1 _), R5.set_ 1 _, ?_, hS7⟩
          refine OwnS.stepG IsR.stb ?_ (zcn _ g 1 _) hgb (fun b h => by have := hS7 b h; omega)
          have e : rawV (zbj (j + 1)) = rawV (zbj j) ++ [raw z0] := by rw [zfb, rawV_snoc, HZ0.out]
          rw [e]
          exact hown5
        case measure => simp [intOf]; omega
    · have ej : j = p.B.length := by omega
      clear g0 g1 g2
      rw [ej] at Hown HRw
      have HZH : Hid (IsV wr (fun b => w2.heap.size ≤ b ∧ b < wr.heap.size) (.slice AzH p.B.length czH) (rawV (zbj p.B.length))) := by
        have h := Hown.out
        exact OwnS.isS IsR.stb h (fun b hb => by obtain ⟨_, _, _, _, h4⟩ := h; exact ⟨HS1.out b hb, (h4 b hb).1⟩) (fun b h1 h2 => ⟨h1, h2⟩)
      clear Hown HS1
      have BR := Lib.hid (zaa HBd.out Hbw.out)
      obtain ⟨s0, s1, s2, s3, s4, s5, s6⟩ := zba (RSd.out.next Hbw.out)
      have n1 : (s.st == 1) = false := beq_eq_false_iff_ne.2 HST.out.1
      have n2 : (s.st == 2) = false := beq_eq_false_iff_ne.2 HST.out.2.1
      have n3 : (s.st == 3) = false := beq_eq_false_iff_ne.2 HST.out.2.2
      go_wp2_with fail
      go_ret
      exact ⟨rfl, BR.out⟩
def zcr (p : Prog) (s : Sol) : Bool := zav s.X p.C.length && zav s.R p.C.length && decide (s.D.length = 0) && zco s.val
set_option maxRecDepth 100000 in
set_option maxHeartbeats 2000000 in
theorem unbProper_l {w : World} {v : Value} {p : Prog} {s : Sol} (h : IsPS w (Old w) v p s) (hB : Bru w) : Calls Tryz.prog 209 #[v] w fun e w' => e = .returned (.bool (zcr p s)) ∧ Below w.heap.size w w' := by
  obtain ⟨A, cA, B, cB, C, cC, P, cP, Q, cQ, X, cX, D, cD, R, cR, rfl, hA, hBv, hC, hV, hX, hD, hR⟩ := h
  have HA := Lib.hid hA
  have HBv := Lib.hid hBv
  have HC := Lib.hid hC
  have HV := Lib.hid hV
  have HX := Lib.hid hX
  have HD := Lib.hid hD
  have HR := Lib.hid hR
  have HB := Lib.hid hB
  have mB := zbg hBv
  have mC := zbg hC
  have mX := zbg hX
  have mD := zbg hD
  have mR := zbg hR
  clear hA hBv hC hV hX hD hR hB
  unfold zcr
  obtain ⟨b1, hb1⟩ : ∃ b, b = zav s.X p.C.length := ⟨_, rfl⟩
  obtain ⟨b2, hb2⟩ : ∃ b, b = zav s.R p.C.length := ⟨_, rfl⟩
  obtain ⟨b3, hb3⟩ : ∃ b, b = decide (s.D.length = 0) := ⟨_, rfl⟩
  obtain ⟨b4, hb4⟩ : ∃ b, b = zco s.val := ⟨_, rfl⟩
  have p3 : ((s.D.length : Int) == 0) = b3 := len_eq0.trans hb3.symm
  rw [← hb1, ← hb2, ← hb3, ← hb4]
  have Hb1 := Lib.hid hb1
  have Hb2 := Lib.hid hb2
  have Hb4 := Lib.hid hb4
  clear hb1 hb2 hb3 hb4
  obtain ⟨w0, hw0, hb0, rA, Hz⟩ := zbm w #[.slice A p.A.length cA, .slice B p.B.length cB, .slice C p.C.length cC, .int .i64 s.st, .bool s.val.neg, .slice P s.val.num.length cP, .slice Q s.val.den.length cQ, .slice X s.X.length cX, .slice D s.D.length cD, .slice R s.R.length cR] 88
  have HB0 := Lib.hid hb0
  have RA := Lib.hid rA
  have c0 := (rA.cell 0 : w0.cell? ⟨w.heap.size, 0, none⟩ = some _)
  have c1 := (rA.cell 1 : w0.cell? ⟨w.heap.size, 1, none⟩ = some _)
  have c2 := (rA.cell 2 : w0.cell? ⟨w.heap.size, 2, none⟩ = some _)
  have c3 := (rA.cell 3 : w0.cell? ⟨w.heap.size, 3, none⟩ = some _)
  have c4 := (rA.cell 4 : w0.cell? ⟨w.heap.size, 4, none⟩ = some _)
  have c5 := (rA.cell 5 : w0.cell? ⟨w.heap.size, 5, none⟩ = some _)
  have c6 := (rA.cell 6 : w0.cell? ⟨w.heap.size, 6, none⟩ = some _)
  have c7 := (rA.cell 7 : w0.cell? ⟨w.heap.size, 7, none⟩ = some _)
  have c8 := (rA.cell 8 : w0.cell? ⟨w.heap.size, 8, none⟩ = some _)
  have c9 := (rA.cell 9 : w0.cell? ⟨w.heap.size, 9, none⟩ = some _)
  clear hb0 rA
  cases b1 with
  | false =>
    go_enter Tryz.func209, Tryz.ntmps209
    go_wp2_with fail
    clear hw0
    refine (zbx (IsV.stb.to HX.out (zag HB0.out)) (Bru.next HB.out HB0.out) mC).mono ?_
    rw [show zav s.X p.C.length = false from Hb1.out.symm]
    rintro e w1 ⟨rfl, hb⟩
    have HB1 := Lib.hid (zaa HB0.out hb)
    replace c0 := zab hb c0
    replace c1 := zab hb c1
    replace c2 := zab hb c2
    replace c3 := zab hb c3
    replace c4 := zab hb c4
    replace c5 := zab hb c5
    replace c6 := zab hb c6
    replace c7 := zab hb c7
    replace c8 := zab hb c8
    replace c9 := zab hb c9
    clear hb
    go_wp2_with fail
    go_ret
    exact ⟨rfl, HB1.out⟩
  | true =>
    cases b2 with
    | false =>
      go_enter Tryz.func209, Tryz.ntmps209
      go_wp2_with fail
      clear hw0
      refine (zbx (IsV.stb.to HX.out (zag HB0.out)) (Bru.next HB.out HB0.out) mC).mono ?_
      rw [show zav s.X p.C.length = true from Hb1.out.symm]
      rintro e w1 ⟨rfl, hb⟩
      have HB1 := Lib.hid (zaa HB0.out hb)
      replace c0 := zab hb c0
      replace c1 := zab hb c1
      replace c2 := zab hb c2
      replace c3 := zab hb c3
      replace c4 := zab hb c4
      replace c5 := zab hb c5
      replace c6 := zab hb c6
      replace c7 := zab hb c7
      replace c8 := zab hb c8
      replace c9 := zab hb c9
      clear hb
      go_wp2_with fail
      refine (zbx (IsV.stb.to HR.out (zag HB1.out)) (Bru.next HB.out HB1.out) mC).mono ?_
      rw [show zav s.R p.C.length = false from Hb2.out.symm]
      rintro e w2 ⟨rfl, hb⟩
      have HB2 := Lib.hid (zaa HB1.out hb)
      replace c0 := zab hb c0
      replace c1 := zab hb c1
      replace c2 := zab hb c2
      replace c3 := zab hb c3
      replace c4 := zab hb c4
      replace c5 := zab hb c5
      replace c6 := zab hb c6
      replace c7 := zab hb c7
      replace c8 := zab hb c8
      replace c9 := zab hb c9
      clear hb
      go_wp2_with fail
      go_ret
      exact ⟨rfl, HB2.out⟩
    | true =>
      cases b3 with
      | false =>
        go_enter Tryz.func209, Tryz.ntmps209
        go_wp2_with fail
        clear hw0
        refine (zbx (IsV.stb.to HX.out (zag HB0.out)) (Bru.next HB.out HB0.out) mC).mono ?_
        rw [show zav s.X p.C.length = true from Hb1.out.symm]
        rintro e w1 ⟨rfl, hb⟩
        have HB1 := Lib.hid (zaa HB0.out hb)
        replace c0 := zab hb c0
        replace c1 := zab hb c1
        replace c2 := zab hb c2
        replace c3 := zab hb c3
        replace c4 := zab hb c4
        replace c5 := zab hb c5
        replace c6 := zab hb c6
        replace c7 := zab hb c7
        replace c8 := zab hb c8
        replace c9 := zab hb c9
        clear hb
        go_wp2_with fail
        refine (zbx (IsV.stb.to HR.out (zag HB1.out)) (Bru.next HB.out HB1.out) mC).mono ?_
        rw [show zav s.R p.C.length = true from Hb2.out.symm]
        rintro e w2 ⟨rfl, hb⟩
        have HB2 := Lib.hid (zaa HB1.out hb)
        replace c0 := zab hb c0
        replace c1 := zab hb c1
        replace c2 := zab hb c2
        replace c3 := zab hb c3
        replace c4 := zab hb c4
        replace c5 := zab hb c5
        replace c6 := zab hb c6
        replace c7 := zab hb c7
        replace c8 := zab hb c8
        replace c9 := zab hb c9
        clear hb
        go_wp2_with fail
        go_ret
        exact ⟨rfl, HB2.out⟩
      | true =>
        cases b4 with
        | false =>
          go_enter Tryz.func209, Tryz.ntmps209
          go_wp2_with fail
          clear hw0
          refine (zbx (IsV.stb.to HX.out (zag HB0.out)) (Bru.next HB.out HB0.out) mC).mono ?_
          rw [show zav s.X p.C.length = true from Hb1.out.symm]
          rintro e w1 ⟨rfl, hb⟩
          have HB1 := Lib.hid (zaa HB0.out hb)
          replace c0 := zab hb c0
          replace c1 := zab hb c1
          replace c2 := zab hb c2
          replace c3 := zab hb c3
          replace c4 := zab hb c4
          replace c5 := zab hb c5
          replace c6 := zab hb c6
          replace c7 := zab hb c7
          replace c8 := zab hb c8
          replace c9 := zab hb c9
          clear hb
          go_wp2_with fail
          refine (zbx (IsV.stb.to HR.out (zag HB1.out)) (Bru.next HB.out HB1.out) mC).mono ?_
          rw [show zav s.R p.C.length = true from Hb2.out.symm]
          rintro e w2 ⟨rfl, hb⟩
          have HB2 := Lib.hid (zaa HB1.out hb)
          replace c0 := zab hb c0
          replace c1 := zab hb c1
          replace c2 := zab hb c2
          replace c3 := zab hb c3
          replace c4 := zab hb c4
          replace c5 := zab hb c5
          replace c6 := zab hb c6
          replace c7 := zab hb c7
          replace c8 := zab hb c8
          replace c9 := zab hb c9
          clear hb
          go_wp2_with fail
          refine (nothing_l (IsR.stb.to HV.out (zag HB2.out)) (Bru.next HB.out HB2.out)).mono ?_
          rw [show zco s.val = false from Hb4.out.symm]
          rintro e w3 ⟨rfl, hb⟩
          have HB3 := Lib.hid (zaa HB2.out hb)
          replace c0 := zab hb c0
          replace c1 := zab hb c1
          replace c2 := zab hb c2
          replace c3 := zab hb c3
          replace c4 := zab hb c4
          replace c5 := zab hb c5
          replace c6 := zab hb c6
          replace c7 := zab hb c7
          replace c8 := zab hb c8
          replace c9 := zab hb c9
          clear hb
          go_wp2_with fail
          go_ret
          exact ⟨rfl, HB3.out⟩
        | true =>
          go_enter Tryz.func209, Tryz.ntmps209
          go_wp2_with fail
          clear hw0
          refine (zbx (IsV.stb.to HX.out (zag HB0.out)) (Bru.next HB.out HB0.out) mC).mono ?_
          rw [show zav s.X p.C.length = true from Hb1.out.symm]
          rintro e w1 ⟨rfl, hb⟩
          have HB1 := Lib.hid (zaa HB0.out hb)
          replace c0 := zab hb c0
          replace c1 := zab hb c1
          replace c2 := zab hb c2
          replace c3 := zab hb c3
          replace c4 := zab hb c4
          replace c5 := zab hb c5
          replace c6 := zab hb c6
          replace c7 := zab hb c7
          replace c8 := zab hb c8
          replace c9 := zab hb c9
          clear hb
          go_wp2_with fail
          refine (zbx (IsV.stb.to HR.out (zag HB1.out)) (Bru.next HB.out HB1.out) mC).mono ?_
          rw [show zav s.R p.C.length = true from Hb2.out.symm]
          rintro e w2 ⟨rfl, hb⟩
          have HB2 := Lib.hid (zaa HB1.out hb)
          replace c0 := zab hb c0
          replace c1 := zab hb c1
          replace c2 := zab hb c2
          replace c3 := zab hb c3
          replace c4 := zab hb c4
          replace c5 := zab hb c5
          replace c6 := zab hb c6
          replace c7 := zab hb c7
          replace c8 := zab hb c8
          replace c9 := zab hb c9
          clear hb
          go_wp2_with fail
          refine (nothing_l (IsR.stb.to HV.out (zag HB2.out)) (Bru.next HB.out HB2.out)).mono ?_
          rw [show zco s.val = true from Hb4.out.symm]
          rintro e w3 ⟨rfl, hb⟩
          have HB3 := Lib.hid (zaa HB2.out hb)
          replace c0 := zab hb c0
          replace c1 := zab hb c1
          replace c2 := zab hb c2
          replace c3 := zab hb c3
          replace c4 := zab hb c4
          replace c5 := zab hb c5
          replace c6 := zab hb c6
          replace c7 := zab hb c7
          replace c8 := zab hb c8
          replace c9 := zab hb c9
          clear hb
          go_wp2_with fail
          go_ret
          exact ⟨rfl, HB3.out⟩
structure UnbQ (p : Prog) (s : Sol) (q : ProgQ) (x r : List Rat) : Prop where
  prog : p = rawP q
  good : Good q 1024
  X : s.X = rawV x
  R : s.R = rawV r
  lx : x.length = q.C.length
  lr : r.length = q.C.length
  sx : ∀ e ∈ x, Sz e 1024
  sr : ∀ e ∈ r, Sz e 1024
theorem unbProper_q {p : Prog} {s : Sol} {q : ProgQ} (hp : p = rawP q) (hg : Good q 1024) (h : zcr p s = true) : ∃ x r, UnbQ p s q x r := by
  unfold zcr at h
  rw [Bool.and_eq_true, Bool.and_eq_true, Bool.and_eq_true] at h
  obtain ⟨_, x, hx, lx, sx⟩ := zen h.1.1.1
  obtain ⟨_, r, hr, lr, sr⟩ := zen h.1.1.2
  exact ⟨x, r, hp, hg, hx, hr, by rw [lx, hp]; exact zay _, by rw [lr, hp]; exact zay _, sx, sr⟩
def zdn (q : ProgQ) (x r : List Rat) : Bool := zeg q.A (zbj q.B.length) r && zeg q.A q.B x
def unbGrows (q : ProgQ) (r : List Rat) : Bool := decide (0 < dotQ q.C r)
theorem zip_zeros {A : List (List Rat)} {n : Nat} (h : A.length = n) {f : List Rat × Rat → Bool} : (A.zip (zbj n)).all f = (List.range n).all fun j => f (A.getD j [], 0) := by
  rw [Bool.eq_iff_iff, List.all_eq_true, List.all_eq_true]
  refine ⟨fun g j hj => g _ (List.mem_of_getElem? (i := j) (List.getElem?_zip_eq_some.2 ⟨?_, ?_⟩)), fun g x hx => ?_⟩
  · have hlt := List.mem_range.1 hj
    rw [List.getD_eq_getElem?_getD, List.getElem?_eq_getElem (by omega)]; rfl
  · have hlt := List.mem_range.1 hj
    rw [zbj, List.getElem?_replicate, if_pos hlt]
  · obtain ⟨j, hj⟩ := List.getElem?_of_mem hx
    rw [List.getElem?_zip_eq_some] at hj
    obtain ⟨h1, h2⟩ := hj
    rw [zbj, List.getElem?_replicate] at h2
    split at h2
    · rename_i hlt
      have := g j (List.mem_range.2 hlt)
      rw [List.getD_eq_getElem?_getD, h1] at this
      cases x
      simp only [Option.some.injEq] at h2
      subst h2
      exact this
    · cases h2
theorem pos_int {d : Rat} : decide (sgnQ d > 0) = decide (0 < d) := decide_eq_decide.2 sgnQ_pos
theorem row_getD {l : List (List Rat)} {j : Nat} {q : List Rat} (h : l[j]? = some q) : l.getD j [] = q := by rw [List.getD_eq_getElem?_getD, h]; rfl
set_option maxRecDepth 100000 in
set_option maxHeartbeats 2000000 in
theorem unbGrows_l {w : World} {v : Value} {p : Prog} {s : Sol} {q : ProgQ} {x r : List Rat} (h : IsPS w (Old w) v p s) (hB : Bru w) (hq : UnbQ p s q x r) : Calls Tryz.prog 207 #[v] w fun e w' => e = .returned (.bool (unbGrows q r)) ∧ Below w.heap.size w w' := by
  obtain ⟨A, cA, B, cB, C, cC, P, cP, Q, cQ, X, cX, D, cD, R, cR, rfl, hA, hBv, hC, hV, hX, hD, hR⟩ := h
  have HA := Lib.hid hA
  have HBv := Lib.hid hBv
  have HC := Lib.hid hC
  have HV := Lib.hid hV
  have HX := Lib.hid hX
  have HD := Lib.hid hD
  have HR := Lib.hid hR
  have HB := Lib.hid hB
  have mB := zbg hBv
  have mC := zbg hC
  have mX := zbg hX
  have mD := zbg hD
  have mR := zbg hR
  clear hA hBv hC hV hX hD hR hB
  have HQ := Lib.hid hq
  have HA2 : Hid (∀ W : World, Below w.heap.size w W → IsM W (Old W) (.slice A p.A.length cA) (rawM q.A)) := fun W hW => by have e : p.A = rawM q.A := (by rw [HQ.out.prog]; rfl); rw [← e]; exact IsM.stb.to HA.out (zag hW)
  have HC2 : Hid (∀ W : World, Below w.heap.size w W → IsV W (Old W) (.slice C p.C.length cC) (rawV q.C)) := fun W hW => by have e : p.C = rawV q.C := (by rw [HQ.out.prog]; rfl); rw [← e]; exact IsV.stb.to HC.out (zag hW)
  have HP : Hid (∀ W : World, Below w.heap.size w W → IsP W (Old W) (.agg #[.slice A p.A.length cA, .slice B p.B.length cB, .slice C p.C.length cC]) (rawP q)) := fun W hW => by have h := isP_of (IsM.stb.to HA.out (zag hW)) (IsV.stb.to HBv.out (zag hW)) (IsV.stb.to HC.out (zag hW)); have e := HQ.out.prog; rw [← e]; exact h
  have HX2 : Hid (∀ W : World, Below w.heap.size w W → IsV W (Old W) (.slice X s.X.length cX) (rawV x)) := fun W hW => by rw [← HQ.out.X]; exact IsV.stb.to HX.out (zag hW)
  have HR2 : Hid (∀ W : World, Below w.heap.size w W → IsV W (Old W) (.slice R s.R.length cR) (rawV r)) := fun W hW => by rw [← HQ.out.R]; exact IsV.stb.to HR.out (zag hW)
  unfold unbGrows
  rw [← pos_int]
  clear hq
  obtain ⟨w0, hw0, hb0, rA, Hz⟩ := zbm w #[.slice A p.A.length cA, .slice B p.B.length cB, .slice C p.C.length cC, .int .i64 s.st, .bool s.val.neg, .slice P s.val.num.length cP, .slice Q s.val.den.length cQ, .slice X s.X.length cX, .slice D s.D.length cD, .slice R s.R.length cR] 88
  have HB0 := Lib.hid hb0
  have RA := Lib.hid rA
  have c0 := (rA.cell 0 : w0.cell? ⟨w.heap.size, 0, none⟩ = some _)
  have c1 := (rA.cell 1 : w0.cell? ⟨w.heap.size, 1, none⟩ = some _)
  have c2 := (rA.cell 2 : w0.cell? ⟨w.heap.size, 2, none⟩ = some _)
  have c3 := (rA.cell 3 : w0.cell? ⟨w.heap.size, 3, none⟩ = some _)
  have c4 := (rA.cell 4 : w0.cell? ⟨w.heap.size, 4, none⟩ = some _)
  have c5 := (rA.cell 5 : w0.cell? ⟨w.heap.size, 5, none⟩ = some _)
  have c6 := (rA.cell 6 : w0.cell? ⟨w.heap.size, 6, none⟩ = some _)
  have c7 := (rA.cell 7 : w0.cell? ⟨w.heap.size, 7, none⟩ = some _)
  have c8 := (rA.cell 8 : w0.cell? ⟨w.heap.size, 8, none⟩ = some _)
  have c9 := (rA.cell 9 : w0.cell? ⟨w.heap.size, 9, none⟩ = some _)
  clear rA
  clear hb0
  go_enter Tryz.func207, Tryz.ntmps207
  go_wp2_with fail
  clear hw0
  refine (dot_q (M := q.C.length) (HC2.out _ HB0.out) (HR2.out _ HB0.out) (Bru.next HB.out HB0.out) rfl HQ.out.lr HQ.out.good.nC HQ.out.good.szC HQ.out.sr).mono ?_
  rintro e w1 ⟨⟨v1, rfl, hv⟩, hb⟩
  have V1 := Lib.hid (IsQ.stb.old hv)
  have Hb1 := Lib.hid (zaa HB0.out hb)
  clear hb hv
  go_wp2_with fail
  refine (sign_q V1.out).mono ?_
  rintro e w2 ⟨rfl, hb⟩
  go_wp2_with fail
  go_ret
  exact ⟨rfl, zaa Hb1.out hb⟩
set_option maxRecDepth 100000 in
set_option maxHeartbeats 4000000 in
theorem unbPossible_l {w : World} {v : Value} {p : Prog} {s : Sol} {q : ProgQ} {x r : List Rat} (h : IsPS w (Old w) v p s) (hB : Bru w) (hq : UnbQ p s q x r) : Calls Tryz.prog 210 #[v] w fun e w' => e = .returned (.bool (zdn q x r)) ∧ Below w.heap.size w w' := by
  obtain ⟨A, cA, B, cB, C, cC, P, cP, Q, cQ, X, cX, D, cD, R, cR, rfl, hA, hBv, hC, hV, hX, hD, hR⟩ := h
  have HA := Lib.hid hA
  have HBv := Lib.hid hBv
  have HC := Lib.hid hC
  have HV := Lib.hid hV
  have HX := Lib.hid hX
  have HD := Lib.hid hD
  have HR := Lib.hid hR
  have HB := Lib.hid hB
  have mB := zbg hBv
  have mC := zbg hC
  have mX := zbg hX
  have mD := zbg hD
  have mR := zbg hR
  clear hA hBv hC hV hX hD hR hB
  have HQ := Lib.hid hq
  have HA2 : Hid (∀ W : World, Below w.heap.size w W → IsM W (Old W) (.slice A p.A.length cA) (rawM q.A)) := fun W hW => by have e : p.A = rawM q.A := (by rw [HQ.out.prog]; rfl); rw [← e]; exact IsM.stb.to HA.out (zag hW)
  have HC2 : Hid (∀ W : World, Below w.heap.size w W → IsV W (Old W) (.slice C p.C.length cC) (rawV q.C)) := fun W hW => by have e : p.C = rawV q.C := (by rw [HQ.out.prog]; rfl); rw [← e]; exact IsV.stb.to HC.out (zag hW)
  have HP : Hid (∀ W : World, Below w.heap.size w W → IsP W (Old W) (.agg #[.slice A p.A.length cA, .slice B p.B.length cB, .slice C p.C.length cC]) (rawP q)) := fun W hW => by have h := isP_of (IsM.stb.to HA.out (zag hW)) (IsV.stb.to HBv.out (zag hW)) (IsV.stb.to HC.out (zag hW)); have e := HQ.out.prog; rw [← e]; exact h
  have HX2 : Hid (∀ W : World, Below w.heap.size w W → IsV W (Old W) (.slice X s.X.length cX) (rawV x)) := fun W hW => by rw [← HQ.out.X]; exact IsV.stb.to HX.out (zag hW)
  have HR2 : Hid (∀ W : World, Below w.heap.size w W → IsV W (Old W) (.slice R s.R.length cR) (rawV r)) := fun W hW => by rw [← HQ.out.R]; exact IsV.stb.to HR.out (zag hW)
  have hAn : p.A.length = q.A.length := by rw [hq.prog]; exact zek _
  have hn40 : q.C.length ≤ 40 := hq.good.nC
  have hM40 : q.B.length ≤ 40 := hq.good.nB
  clear hq
  obtain ⟨w0, hw0, hb0, rA, Hz⟩ := zbm w #[.slice A p.A.length cA, .slice B p.B.length cB, .slice C p.C.length cC, .int .i64 s.st, .bool s.val.neg, .slice P s.val.num.length cP, .slice Q s.val.den.length cQ, .slice X s.X.length cX, .slice D s.D.length cD, .slice R s.R.length cR] 88
  have HB0 := Lib.hid hb0
  have RA := Lib.hid rA
  have c0 := (rA.cell 0 : w0.cell? ⟨w.heap.size, 0, none⟩ = some _)
  have c1 := (rA.cell 1 : w0.cell? ⟨w.heap.size, 1, none⟩ = some _)
  have c2 := (rA.cell 2 : w0.cell? ⟨w.heap.size, 2, none⟩ = some _)
  have c3 := (rA.cell 3 : w0.cell? ⟨w.heap.size, 3, none⟩ = some _)
  have c4 := (rA.cell 4 : w0.cell? ⟨w.heap.size, 4, none⟩ = some _)
  have c5 := (rA.cell 5 : w0.cell? ⟨w.heap.size, 5, none⟩ = some _)
  have c6 := (rA.cell 6 : w0.cell? ⟨w.heap.size, 6, none⟩ = some _)
  have c7 := (rA.cell 7 : w0.cell? ⟨w.heap.size, 7, none⟩ = some _)
  have c8 := (rA.cell 8 : w0.cell? ⟨w.heap.size, 8, none⟩ = some _)
  have c9 := (rA.cell 9 : w0.cell? ⟨w.heap.size, 9, none⟩ = some _)
  clear rA
  clear hb0
  obtain ⟨M, hM⟩ : ∃ n, n = p.A.length := ⟨_, rfl⟩
  have HM := Lib.hid ((hM.trans hAn).trans HQ.out.good.rows)
  rw [← hM] at c0 HA2
  have hM41 : M ≤ 40 := by rw [HM.out]; exact hM40
  obtain ⟨g1, hg1⟩ : ∃ b, b = zeg q.A q.B x := ⟨_, rfl⟩
  have Hg1 := Lib.hid hg1
  obtain ⟨g2, hg2⟩ : ∃ b, b = zda (rawV r) := ⟨_, rfl⟩
  have Hg2 := Lib.hid hg2
  have Hun : Hid (zdn q x r = (((List.range M).all fun j => decide (dotQ (q.A.getD j []) r ≤ 0)) && !g2 && g1)) := by
    rw [Hid, zdn, zeg, zip_zeros HQ.out.good.rows, ← HM.out, ← hg1, ← hg2]
  rw [Hun.out]
  clear hM hAn hg1 hg2
  go_enter Tryz.func210, Tryz.ntmps210
  go_wp2_with fail
  clear hw0 c0 c1 c2 c3 c4 c5 c6 c7 c8 c9
  go_loopw [10, 4] (fun i rr wr => ∃ k : Nat, k ≤ M ∧ i = .int .i64 (k : Int) ∧ Below w0.heap.size w0 wr ∧ Hid (∀ j, j < k → decide (dotQ (q.A.getD j []) r ≤ 0) = true)) (fun i _ _ => M - (intOf i).toNat)
  case atStart => exact ⟨0, Nat.zero_le _, rfl, Below.refl _ _, fun i hi => by omega⟩
  case round =>
    obtain ⟨k, hk, rfl, hbw, hrel⟩ := hrel
    have Hbw := Lib.hid hbw
    have HW := Lib.hid (zaa HB0.out hbw)
    have Hrel := Lib.hid hrel.out
    have c9 : wr.cell? ⟨w.heap.size, 9, none⟩ = some _ := (RA.out.next hbw).cell 9
    clear hrel
    rcases Nat.lt_or_ge k M with hlt | hge
    · obtain ⟨row, hr, hrr⟩ := rawM_get (m := q.A) (j := k) (by rw [HQ.out.good.rows, ← HM.out]; exact hlt)
      obtain ⟨b2, o2, R1, R2, rfl, _, helr, d0⟩ := zdp (HA2.out _ HW.out) hrr
      have hrl : row.length = q.C.length := HQ.out.good.cols row (List.mem_of_getElem? hr)
      have er : (rawV row).length = q.C.length := (zay row).trans hrl
      rw [er] at d0 helr
      have QR := Lib.hid helr
      obtain ⟨d, hd⟩ : ∃ d, d = dotQ row r := ⟨_, rfl⟩
      have Hd := Lib.hid hd
      have Hat : Hid (dotQ (q.A.getD k []) r = d) := by rw [Hid, row_getD hr, hd]
      have Hrl := Lib.hid hrl
      have Hsr : Hid (∀ e ∈ row, Sz e 1024) := HQ.out.good.szA row (List.mem_of_getElem? hr)
      obtain ⟨o, ho⟩ : ∃ o, o = sgnQ d := ⟨_, rfl⟩
      have Ho := Lib.hid ho
      have Hlt := Lib.hid hlt
      clear hr hrr helr hrl er hd ho hbw
      go_wp2_with fail
      refine (dot_q (M := q.C.length) QR.out (HR2.out _ HW.out) (Bru.next HB.out HW.out) Hrl.out HQ.out.lr hn40 Hsr.out HQ.out.sr).mono ?_
      rw [← Hd.out]
      rintro e w5 ⟨⟨v5, rfl, hv5⟩, hb5⟩
      have V5 := Lib.hid (IsQ.stb.old hv5)
      have HB5 := Lib.hid (zaa Hbw.out hb5)
      clear hb5 hv5 d0
      go_wp2_with fail
      refine (sign_q V5.out).mono ?_
      rw [← Ho.out]
      rintro e w6 ⟨rfl, hb6⟩
      have HB6 := Lib.hid (zaa HB5.out hb6)
      clear hb6 c9
      by_cases hpos : o > 0
      · have Hr : Hid ((((List.range M).all fun j => decide (dotQ (q.A.getD j []) r ≤ 0)) && !g2 && g1) = false) := by
          rw [Hid, all_range_not (k := k) Hlt.out (by rw [Hat.out]; exact decide_eq_false (fun h => by have := sgnQ_pos.1 (show 0 < sgnQ d by rw [← Ho.out]; exact hpos); exact Rat.not_lt.2 h this))]
          rfl
        go_wp2_with fail
        go_ret
        exact ⟨by show Ending.returned (.bool _) = _; rw [Hr.out], zaa HB0.out HB6.out⟩
      · have Hle : Hid (d ≤ 0) := by
          rw [Hid]
          refine Rat.not_lt.1 fun h => hpos ?_
          have := sgnQ_pos.2 h
          rw [Ho.out]
          exact this
        go_wp2_with fail
        go_roundw
        case rel =>
          refine ⟨k + 1, by omega, by go_num, HB6.out, fun i hi => ?_⟩
          rcases Nat.lt_or_ge i k with h | h
          · exact Hrel.out i h
          · obtain rfl : i = k := by omega
            rw [Hat.out]
            exact decide_eq_true Hle.out
        case measure => simp [intOf]; omega
    · obtain rfl : k = M := by omega
      have c0 : wr.cell? ⟨w.heap.size, 0, none⟩ = some _ := (RA.out.next hbw).cell 0
      have c1 : wr.cell? ⟨w.heap.size, 1, none⟩ = some _ := (RA.out.next hbw).cell 1
      have c2 : wr.cell? ⟨w.heap.size, 2, none⟩ = some _ := (RA.out.next hbw).cell 2
      have c7 : wr.cell? ⟨w.heap.size, 7, none⟩ = some _ := (RA.out.next hbw).cell 7
      have Hr : Hid ((((List.range k).all fun j => decide (dotQ (q.A.getD j []) r ≤ 0)) && !g2 && g1) = (!g2 && g1)) := by
        rw [Hid, all_range_of Hrel.out, Bool.true_and]
      clear hbw
      cases g2 with
      | true =>
        go_wp2_with fail
        refine (negative_l (HR2.out _ HW.out)).mono ?_
        rw [← Hg2.out]
        rintro e w6 ⟨rfl, hb⟩
        go_wp2_with fail
        go_ret
        exact ⟨by show Ending.returned (.bool _) = _; (rw [Hr.out]; try rfl), zaa HW.out hb⟩
      | false =>
        go_wp2_with fail
        refine (negative_l (HR2.out _ HW.out)).mono ?_
        rw [← Hg2.out]
        rintro e w6 ⟨rfl, hb⟩
        have HW6 := Lib.hid (zaa HW.out hb)
        replace c0 := zab hb c0
        replace c1 := zab hb c1
        replace c2 := zab hb c2
        replace c7 := zab hb c7
        clear hb c9
        go_wp2_with fail
        refine (zef (HP.out _ HW6.out) (HX2.out _ HW6.out) (Bru.next HB.out HW6.out) HQ.out.good HQ.out.lx HQ.out.sx).mono ?_
        rw [← Hg1.out]
        rintro e w7 ⟨rfl, hb⟩
        go_wp2_with fail
        go_ret
        exact ⟨by show Ending.returned (.bool _) = _; (rw [Hr.out]; try rfl), zaa HW6.out hb⟩
set_option maxRecDepth 100000 in
set_option maxHeartbeats 4000000 in
theorem unbProves_l {w : World} {v : Value} {p : Prog} {s : Sol} {b2 b3 : Bool} (h : IsPS w (Old w) v p s) (hB : Bru w) (h2 : zcr p s = true → ∃ q x r, UnbQ p s q x r ∧ b2 = zdn q x r ∧ b3 = unbGrows q r) :
    Calls Tryz.prog 208 #[v] w fun e w' => e = .returned (.bool (zcr p s && b2 && b3)) ∧ Below w.heap.size w w' := by
  have H := Lib.hid h
  have HB := Lib.hid hB
  have H2 := Lib.hid h2
  obtain ⟨A, cA, B, cB, C, cC, P, cP, Q, cQ, X, cX, D, cD, R, cR, rfl, _⟩ := h
  clear hB h2
  have C1 : Hid (∀ W0, Below w.heap.size w W0 → Chk W0 209 (.agg #[.slice A p.A.length cA, .slice B p.B.length cB, .slice C p.C.length cC, .int .i64 s.st, .bool s.val.neg, .slice P s.val.num.length cP, .slice Q s.val.den.length cQ, .slice X s.X.length cX, .slice D s.D.length cD, .slice R s.R.length cR]) (zcr p s)) := fun W0 h0 W hW => unbProper_l (IsPS.to H.out (zag (zaa h0 hW))) (Bru.next HB.out (zaa h0 hW))
  have C2 : Hid (zcr p s = true → ∀ W0, Below w.heap.size w W0 → Chk W0 210 (.agg #[.slice A p.A.length cA, .slice B p.B.length cB, .slice C p.C.length cC, .int .i64 s.st, .bool s.val.neg, .slice P s.val.num.length cP, .slice Q s.val.den.length cQ, .slice X s.X.length cX, .slice D s.D.length cD, .slice R s.R.length cR]) b2) := fun hp W0 h0 W hW => by
    obtain ⟨q, x, r, hq, e2, _⟩ := H2.out hp
    rw [e2]
    exact unbPossible_l (IsPS.to H.out (zag (zaa h0 hW))) (Bru.next HB.out (zaa h0 hW)) hq
  have C3 : Hid (zcr p s = true → ∀ W0, Below w.heap.size w W0 → Chk W0 207 (.agg #[.slice A p.A.length cA, .slice B p.B.length cB, .slice C p.C.length cC, .int .i64 s.st, .bool s.val.neg, .slice P s.val.num.length cP, .slice Q s.val.den.length cQ, .slice X s.X.length cX, .slice D s.D.length cD, .slice R s.R.length cR]) b3) := fun hp W0 h0 W hW => by
    obtain ⟨q, x, r, hq, _, e3⟩ := H2.out hp
    rw [e3]
    exact unbGrows_l (IsPS.to H.out (zag (zaa h0 hW))) (Bru.next HB.out (zaa h0 hW)) hq
  obtain ⟨w0, hw0, hb0, rA, Hz⟩ := zbm w #[.slice A p.A.length cA, .slice B p.B.length cB, .slice C p.C.length cC, .int .i64 s.st, .bool s.val.neg, .slice P s.val.num.length cP, .slice Q s.val.den.length cQ, .slice X s.X.length cX, .slice D s.D.length cD, .slice R s.R.length cR] 88
  have c0 := (rA.cell 0 : w0.cell? ⟨w.heap.size, 0, none⟩ = some _)
  have c1 := (rA.cell 1 : w0.cell? ⟨w.heap.size, 1, none⟩ = some _)
  have c2 := (rA.cell 2 : w0.cell? ⟨w.heap.size, 2, none⟩ = some _)
  have c3 := (rA.cell 3 : w0.cell? ⟨w.heap.size, 3, none⟩ = some _)
  have c4 := (rA.cell 4 : w0.cell? ⟨w.heap.size, 4, none⟩ = some _)
  have c5 := (rA.cell 5 : w0.cell? ⟨w.heap.size, 5, none⟩ = some _)
  have c6 := (rA.cell 6 : w0.cell? ⟨w.heap.size, 6, none⟩ = some _)
  have c7 := (rA.cell 7 : w0.cell? ⟨w.heap.size, 7, none⟩ = some _)
  have c8 := (rA.cell 8 : w0.cell? ⟨w.heap.size, 8, none⟩ = some _)
  have c9 := (rA.cell 9 : w0.cell? ⟨w.heap.size, 9, none⟩ = some _)
  obtain ⟨w1, hw1, hb1, rF, Hz1⟩ := zbm w0 #[.func (.func 209) #[.agg #[.slice A p.A.length cA, .slice B p.B.length cB, .slice C p.C.length cC, .int .i64 s.st, .bool s.val.neg, .slice P s.val.num.length cP, .slice Q s.val.den.length cQ, .slice X s.X.length cX, .slice D s.D.length cD, .slice R s.R.length cR]] #[], .func (.func 210) #[.agg #[.slice A p.A.length cA, .slice B p.B.length cB, .slice C p.C.length cC, .int .i64 s.st, .bool s.val.neg, .slice P s.val.num.length cP, .slice Q s.val.den.length cQ, .slice X s.X.length cX, .slice D s.D.length cD, .slice R s.R.length cR]] #[], .func (.func 207) #[.agg #[.slice A p.A.length cA, .slice B p.B.length cB, .slice C p.C.length cC, .int .i64 s.st, .bool s.val.neg, .slice P s.val.num.length cP, .slice Q s.val.den.length cQ, .slice X s.X.length cX, .slice D s.D.length cD, .slice R s.R.length cR]] #[]] 199
  have HB1 := Lib.hid (zaa hb0 hb1)
  have RF := Lib.hid rF
  clear hb0 rA hb1 rF
  go_enter Tryz.func208, Tryz.ntmps208
  go_wp2_with fail
  refine (all_l (b2 := b2) (b3 := b3) RF.out (fun _ => by kernel_rfl) (fun _ => by kernel_rfl) (fun _ => by kernel_rfl) (C1.out _ HB1.out) (fun hp => C2.out hp _ HB1.out) (fun hp _ => C3.out hp _ HB1.out)).mono ?_
  rintro e w2 ⟨rfl, hb⟩
  clear hw0 hw1
  go_wp2_with fail
  go_ret
  exact ⟨rfl, zaa HB1.out hb⟩
end Go.Proofs.YtblpaocignlpkaaGreatDoor
