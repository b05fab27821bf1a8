/-
  The zbe of the reference's Order.
-/
import Derived.Test.YtblpaocignlpkaaGreatDoorProofDualAccepts01
import Derived.Test.YtblpaocignlpkaaGreatDoorProofDualAccepts03
import Derived.Test.YtblpaocignlpkaaGreatDoorProofDualAccepts06
import Derived.Test.YtblpaocignlpkaaGreatDoorCore16
import Derived.Test.YtblpaocignlpkaaGreatDoorProofDualAccepts04
import Derived.Test.YtblpaocignlpkaaGreatDoorProofDualAccepts05
import Derived.Test.YtblpaocignlpkaaGreatDoorCore07
namespace Go.Proofs.YtblpaocignlpkaaGreatDoor
open Go.RowKit
set_option linter.unusedVariables false
theorem open18 {l : List Value} (h : l.length = 18) : ∃ fs : Nat → Value, l = [fs 0, fs 1, fs 2, fs 3, fs 4, fs 5, fs 6, fs 7, fs 8, fs 9, fs 10, fs 11, fs 12, fs 13, fs 14, fs 15, fs 16, fs 17] := by
  refine ⟨fun i => l.getD i undef, ?_⟩
  have e : l = (List.range 18).map (fun i => l.getD i undef) := by
    apply List.ext_getElem
    · simp [h]
    · intro i h1 h2
      simp [List.getD_eq_getElem?_getD, List.getElem?_eq_getElem h1]
  exact e.trans rfl
def OrdPhi (va vb : Value) (qa qb : Rat) (n0 : Nat) (i : Nat) (v : Value) (w : World) : Prop :=
  match i with
  | 0 => v = va
  | 1 => v = vb
  | 2 => IsQ w (Old w) v (-qb)
  | 3 => IsQ w (Old w) v (qa - qb)
  | 4 => ∃ g, n0 ≤ g ∧ v = .pointer (some ⟨g, 0, none⟩) ∧ Row w g 31 [.bool false, .slice none 0 0, .slice none 0 0]
  | _ => True
theorem ordPhi_stb (va vb : Value) (qa qb : Rat) (n0 : Nat) : ∀ (i : Nat) (v : Value) (w w' : World), OrdPhi va vb qa qb n0 i v w → Below w.heap.size w w' → OrdPhi va vb qa qb n0 i v w' := fun i v w w' h hb => match i, h with
  | 0, h => h
  | 1, h => h
  | 2, h => IsQ.stb.next h hb
  | 3, h => IsQ.stb.next h hb
  | 4, h => by obtain ⟨g, n, e, r⟩ := h; exact ⟨g, n, e, r.next hb⟩
  | _ + 5, _ => trivial
set_option maxRecDepth 100000 in
set_option maxHeartbeats 2000000 in
theorem rorder_q {w : World} {va vb : Value} {qa qb : Rat} (ha : IsQ w (Old w) va qa) (hb : IsQ w (Old w) vb qb) (hsa : Sz qa 100000) (hsb : Sz qb 100000) :
    Calls Tryz.prog 112 #[va, vb] w fun e w' => e = .returned (.int .i64 (cmpQ qa qb)) ∧ Below w.heap.size w w' := by
  have Sa := Lib.hid hsa
  have Sb := Lib.hid hsb
  have HQa := Lib.hid ha
  have HQb := Lib.hid hb
  obtain ⟨nega, Aa, cAa, Ba, cBa, rfl, _, _, _⟩ := zan ha
  obtain ⟨negb, Ab, cAb, Bb, cBb, rfl, _, _, _⟩ := zan hb
  clear ha hb hsa hsb
  obtain ⟨w0, hw0, hb0, rA, rB, Hz⟩ := zcl w #[.bool nega, .slice Aa (lim qa.num.natAbs).length cAa, .slice Ba (lim qa.den).length cBa] #[.bool negb, .slice Ab (lim qb.num.natAbs).length cAb, .slice Bb (lim qb.den).length cBb] 31 31
  have HB0 := Lib.hid hb0
  have RA := Lib.hid rA
  have RB := Lib.hid rB
  clear hb0 rA rB
  go_enter Tryz.func112, Tryz.ntmps112
  go_wp2_with fail
  clear hw0
  refine zey fun ops hops => ?_
  have oq0 := zaw (j := 0) hops rfl
  have oq1 := zaw (j := 1) hops rfl
  have oq2 := zaw (j := 2) hops rfl
  have oq3 := zaw (j := 3) hops rfl
  have oq4 := zaw (j := 4) hops rfl
  have oq5 := zaw (j := 5) hops rfl
  have fr := fun t h => slotN_abs (n := 5) hops t h
  refine wp_region_growS 5 (OrdPhi (.agg #[.bool nega, .slice Aa (lim qa.num.natAbs).length cAa, .slice Ba (lim qa.den).length cBa]) (.agg #[.bool negb, .slice Ab (lim qb.num.natAbs).length cAb, .slice Bb (lim qb.den).length cBb]) qa qb w0.heap.size) (by kernel_rfl) (ordPhi_stb (.agg #[.bool nega, .slice Aa (lim qa.num.natAbs).length cAa, .slice Ba (lim qa.den).length cBa]) (.agg #[.bool negb, .slice Ab (lim qb.num.natAbs).length cAb, .slice Bb (lim qb.den).length cBb]) qa qb w0.heap.size) (by rw [hops]; kernel_rfl) ?step ?fin
  case step =>
    intro i o hin hi a W hsz hdf hbw hfree hdep
    obtain ⟨T, df⟩ := a
    replace hsz : T.size = 18 := hsz
    obtain rfl : df = [] := hdf
    match i, hin, hi with
    | 0, _, hi =>
      obtain rfl := Option.some.inj (oq0.symm.trans hi)
      have e2 : T[2]? = some (.pointer (some ⟨w.heap.size, 0, none⟩)) := hfree 2 (fr 2 (by kernel_rfl))
      refine zao rfl ?_
      clear hdep hfree hsz hops fr oq0 oq1 oq2 oq3 oq4 oq5
      obtain ⟨c0, c1, c2⟩ := zad (RA.out.next hbw)
      refine zai fun K hK => ?_
      go_simp
      exact hK (.agg #[.bool nega, .slice Aa (lim qa.num.natAbs).length cAa, .slice Ba (lim qa.den).length cBa]) _ (Below.refl _ _) (rfl)
    | 1, _, hi =>
      obtain rfl := Option.some.inj (oq1.symm.trans hi)
      have e3 : T[3]? = some (.pointer (some ⟨w.heap.size + 1, 0, none⟩)) := hfree 3 (fr 3 (by kernel_rfl))
      refine zao rfl ?_
      clear hdep hfree hsz hops fr oq0 oq1 oq2 oq3 oq4 oq5
      obtain ⟨c0, c1, c2⟩ := zad (RB.out.next hbw)
      refine zai fun K hK => ?_
      go_simp
      exact hK (.agg #[.bool negb, .slice Ab (lim qb.num.natAbs).length cAb, .slice Bb (lim qb.den).length cBb]) _ (Below.refl _ _) (rfl)
    | 2, _, hi =>
      obtain rfl := Option.some.inj (oq2.symm.trans hi)
      have e7 : T[7]? = some (.agg #[.bool negb, .slice Ab (lim qb.num.natAbs).length cAb, .slice Bb (lim qb.den).length cBb]) := zal (by omega) (hdep 1 _ 7 (odt (by kernel_rfl)) oq1 rfl)
      refine zao rfl ?_
      clear hdep hfree hsz hops fr oq0 oq1 oq2 oq3 oq4 oq5
      refine zai fun K hK => ?_
      go_simp
      refine (rneg_s (IsQ.stb.to HQb.out (zag (zaa HB0.out hbw))) (fun b h => h) rfl).mono ?_
      rintro e w' ⟨⟨v, rfl, hv⟩, hb⟩
      exact hK v w' hb (IsQ.stb.to hv (zat fun b h => Nat.lt_of_lt_of_le h hb.size))
    | 3, _, hi =>
      obtain rfl := Option.some.inj (oq3.symm.trans hi)
      have e6 : T[6]? = some (.agg #[.bool nega, .slice Aa (lim qa.num.natAbs).length cAa, .slice Ba (lim qa.den).length cBa]) := zal (by omega) (hdep 0 _ 6 (odt (by kernel_rfl)) oq0 rfl)
      have d8 : IsQ W (Old W) (T.getD 8 undef) (-qb) := hdep 2 _ 8 (odt (by kernel_rfl)) oq2 rfl
      obtain ⟨v8, e8, g8⟩ := zbz (T := T) (t := 8) (by omega)
      rw [g8] at d8
      clear g8
      refine zao rfl ?_
      clear hdep hfree hsz hops fr oq0 oq1 oq2 oq3 oq4 oq5
      refine zai fun K hK => ?_
      go_simp
      refine (raddq (IsQ.stb.to HQa.out (zag (zaa HB0.out hbw))) d8 Sa.out Sb.out.neg (Rat.sub_eq_add_neg qa qb)).mono ?_
      rintro e w' ⟨⟨v, rfl, hv⟩, hb⟩
      exact hK v w' hb (IsQ.stb.old hv)
    | 4, _, hi =>
      obtain rfl := Option.some.inj (oq4.symm.trans hi)
      refine zao rfl ?_
      clear hdep hfree hsz hops fr oq0 oq1 oq2 oq3 oq4 oq5
      have hz := zRat
      refine zai fun K hK => ?_
      go_simp
      exact hK (.pointer (some ⟨W.heap.size, 0, none⟩)) _ (zas _ _) ⟨_, hbw.size, rfl, heap_alloc_new _ _⟩
    | _ + 5, hin, _ => exact absurd hin (by omega)
  case fin =>
    intro o ho a W hsz hdf hbw hfree hall
    obtain rfl := Option.some.inj (oq5.symm.trans ho)
    obtain ⟨⟨l⟩, df⟩ := a
    replace hsz : l.length = 18 := hsz
    obtain ⟨fs, rfl⟩ := open18 hsz
    obtain rfl : df = [] := hdf
    have bs2 : fs 2 = .pointer (some ⟨w.heap.size, 0, none⟩) := Option.some.inj (hfree 2 (fr 2 (by kernel_rfl)))
    have bs3 : fs 3 = .pointer (some ⟨w.heap.size + 1, 0, none⟩) := Option.some.inj (hfree 3 (fr 3 (by kernel_rfl)))
    have bs4 : fs 4 = .int .i64 0 := Option.some.inj (hfree 4 (fr 4 (by kernel_rfl)))
    have q9 : IsQ W (Old W) (fs 9) (qa - qb) := hall 3 _ 9 (by omega) oq3 rfl
    have q5 : ∃ g, w0.heap.size ≤ g ∧ (fs 5) = .pointer (some ⟨g, 0, none⟩) ∧ Row W g 31 [.bool false, .slice none 0 0, .slice none 0 0] := hall 4 _ 5 (by omega) oq4 rfl
    clear hops fr oq0 oq1 oq2 oq3 oq4 oq5
    clear hall hfree hsz ho
    rw [bs2, bs3, bs4]
    clear bs2 bs3 bs4
    obtain ⟨t9, ht9⟩ : ∃ t, t = fs 9 := ⟨_, rfl⟩
    rw [← ht9] at q9 ⊢
    clear ht9
    obtain ⟨t5, ht5⟩ : ∃ t, t = fs 5 := ⟨_, rfl⟩
    rw [← ht5] at q5 ⊢
    clear ht5
    obtain ⟨g, hlt, rfl, r5⟩ := q5
    obtain ⟨s, P, k, O, l, rfl, hs, hn, _⟩ := zan q9
    obtain ⟨d0, d1, d2⟩ := zad r5
    obtain ⟨f0, f1, f2⟩ := zax r5
    have hB := zbn hbw hlt (.bool s) (.slice P (lim (qa - qb).num.natAbs).length k) (.slice O (lim (qa - qb).den).length l)
    have hBf := Lib.hid (zaa HB0.out hB)
    have hs' := hs.out
    have ep : decide ((qa - qb).num < 0) = decide (qa < qb) := by
      rw [num_neg, Bool.eq_iff_iff, Bool.not_eq_true', decide_eq_true_eq, decide_eq_false_iff_not, ← Rat.le_iff_sub_nonneg, Rat.not_le]
    rw [ep] at hs'
    have ez : qa - qb = 0 ↔ qa = qb := by
      constructor
      · intro h
        have h1 : qb ≤ qa := (Rat.le_iff_sub_nonneg qb qa).2 (by rw [h]; exact Rat.le_refl)
        have h2 : qa ≤ qb := (Rat.le_iff_sub_nonneg qa qb).2 (by have e : qb - qa = -(qa - qb) := by rw [Rat.neg_sub]
                                                                 rw [e, h]; exact Rat.le_refl)
        exact Rat.le_antisymm h2 h1
      · intro h; rw [h, Rat.sub_self]
    have R5 := Lib.hid r5
    clear hbw hB hn ep q9 r5 hlt
    by_cases h0 : qa = qb
    · have l0 := zfi (num_zero_iff.2 (ez.2 h0))
      have hc := Lib.hid (cmpQ_eq h0)
      rw [decide_eq_false (by rw [h0]; exact Rat.lt_irrefl)] at hs'
      subst hs'
      clear h0 ez hs
      refine last_k fun K hK => ?_
      go_simp
      refine hK _ _ ?_
      clear hK K d0 d1 d2 f0 f1 f2
      obtain ⟨c0, c1, c2⟩ := zad (R5.out.put3 (.bool false) (.slice P (lim (qa - qb).num.natAbs).length k) (.slice O (lim (qa - qb).den).length l))
      go_wp2_with fail
      go_ret
      exact ⟨by rw [hc.out]; rfl, hBf.out⟩
    · have l0 := zdz (zeu (fun e => h0 (ez.1 e)))
      by_cases h1 : qa < qb
      · have hc := Lib.hid (cmpQ_lt h1)
        rw [decide_eq_true h1] at hs'
        subst hs'
        clear h0 h1 ez hs
        refine last_k fun K hK => ?_
        go_simp
        refine hK _ _ ?_
        clear hK K d0 d1 d2 f0 f1 f2
        obtain ⟨c0, c1, c2⟩ := zad (R5.out.put3 (.bool true) (.slice P (lim (qa - qb).num.natAbs).length k) (.slice O (lim (qa - qb).den).length l))
        go_wp2_with fail
        go_ret
        exact ⟨by rw [hc.out]; rfl, hBf.out⟩
      · have hc := Lib.hid (cmpQ_gt (Rat.not_le.1 fun h => h1 (Rat.not_le.1 fun h' => h0 (Rat.le_antisymm h h'))))
        rw [decide_eq_false h1] at hs'
        subst hs'
        clear h0 h1 ez hs
        refine last_k fun K hK => ?_
        go_simp
        refine hK _ _ ?_
        clear hK K d0 d1 d2 f0 f1 f2
        obtain ⟨c0, c1, c2⟩ := zad (R5.out.put3 (.bool false) (.slice P (lim (qa - qb).num.natAbs).length k) (.slice O (lim (qa - qb).den).length l))
        go_wp2_with fail
        go_ret
        exact ⟨by rw [hc.out]; rfl, hBf.out⟩
theorem isPS_parts {w : World} {S : Nat → Prop} {p : Prog} {s : Sol} {A B C P Q X D R : Option Addr} {cA cB cC cP cQ cX cD cR : Nat}
    (h : IsPS w S (.agg #[.slice A p.A.length cA, .slice B p.B.length cB, .slice C p.C.length cC, .int .i64 s.st, .bool s.val.neg, .slice P s.val.num.length cP, .slice Q s.val.den.length cQ, .slice X s.X.length cX, .slice D s.D.length cD, .slice R s.R.length cR]) p s) :
    IsM w S (.slice A p.A.length cA) p.A ∧ IsV w S (.slice B p.B.length cB) p.B ∧ IsV w S (.slice C p.C.length cC) p.C ∧ IsR w S (.agg #[.bool s.val.neg, .slice P s.val.num.length cP, .slice Q s.val.den.length cQ]) s.val ∧ IsV w S (.slice X s.X.length cX) s.X ∧ IsV w S (.slice D s.D.length cD) s.D ∧ IsV w S (.slice R s.R.length cR) s.R := by
  obtain ⟨_, _, _, _, _, _, _, _, _, _, _, _, _, _, _, _, hv, h1, h2, h3, h4, h5, h6, h7⟩ := h
  cases hv
  exact ⟨h1, h2, h3, h4, h5, h6, h7⟩
set_option maxRecDepth 100000 in
set_option maxHeartbeats 2000000 in
theorem zfk {w : World} {vp vs : Value} {p : Prog} {s : Sol} (hp : IsP w (Old w) vp p) (hs : IsSol w (Old w) vs s) (h0 : chkQ s.val ≠ 0) :
    Calls Tryz.prog 55 #[vp, vs] w fun e w' => e = .returned (.bool false) ∧ Below w.heap.size w w' := by
  obtain ⟨x, hx⟩ : ∃ x, x = chkQ s.val := ⟨_, rfl⟩
  have Hx := Lib.hid hx
  rw [← hx] at h0
  have b0 : (x != 0) = true := bne_iff_ne.2 h0
  clear hx h0
  have hps : ∃ A cA B cB C cC P cP Q cQ X cX D cD R cR, vp = .agg #[.slice A p.A.length cA, .slice B p.B.length cB, .slice C p.C.length cC] ∧ vs = .agg #[.int .i64 s.st, .bool s.val.neg, .slice P s.val.num.length cP, .slice Q s.val.den.length cQ, .slice X s.X.length cX, .slice D s.D.length cD, .slice R s.R.length cR] ∧ IsPS w (Old w) (.agg #[.slice A p.A.length cA, .slice B p.B.length cB, .slice C p.C.length cC, .int .i64 s.st, .bool s.val.neg, .slice P s.val.num.length cP, .slice Q s.val.den.length cQ, .slice X s.X.length cX, .slice D s.D.length cD, .slice R s.R.length cR]) p s := by
    obtain ⟨A, cA, B, cB, C, cC, rfl, h1, h2, h3⟩ := hp
    obtain ⟨P, cP, Q, cQ, X, cX, D, cD, R, cR, rfl, h4, h5, h6, h7⟩ := hs
    exact ⟨A, cA, B, cB, C, cC, P, cP, Q, cQ, X, cX, D, cD, R, cR, rfl, rfl, A, cA, B, cB, C, cC, P, cP, Q, cQ, X, cX, D, cD, R, cR, rfl, h1, h2, h3, h4, h5, h6, h7⟩
  have HP := Lib.hid hp
  have HVR : Hid (∀ P cP Q cQ X cX D cD R cR, vs = .agg #[.int .i64 s.st, .bool s.val.neg, .slice P s.val.num.length cP, .slice Q s.val.den.length cQ, .slice X s.X.length cX, .slice D s.D.length cD, .slice R s.R.length cR] → IsR w (Old w) (.agg #[.bool s.val.neg, .slice P s.val.num.length cP, .slice Q s.val.den.length cQ]) s.val) := by
    intro P cP Q cQ X cX D cD R cR e
    obtain ⟨P', cP', Q', cQ', X', cX', D', cD', R', cR', e', h4, _⟩ := hs
    rw [e] at e'
    cases e'
    exact h4
  clear hp hs
  obtain ⟨A, cA, B, cB, C, cC, P, cP, Q, cQ, X, cX, D, cD, R, cR, rfl, rfl, hv⟩ := hps
  have HR := Lib.hid (HVR.out _ _ _ _ _ _ _ _ _ _ rfl)
  have HPS := Lib.hid (isPS_parts hv)
  clear HVR hv
  obtain ⟨w0, hw0, hb0, rP, rS, Hz⟩ := zcl w #[.slice A p.A.length cA, .slice B p.B.length cB, .slice C p.C.length cC] #[.int .i64 s.st, .bool s.val.neg, .slice P s.val.num.length cP, .slice Q s.val.den.length cQ, .slice X s.X.length cX, .slice D s.D.length cD, .slice R s.R.length cR] 27 33
  have HB0 := Lib.hid hb0
  have RP := Lib.hid rP
  have RS := Lib.hid rS
  obtain ⟨p0, p1, p2⟩ := zad rP
  obtain ⟨s0, s1, s2, s3, s4, s5, s6⟩ := zba rS
  clear hb0 rP rS
  go_enter Tryz.func55, Tryz.ntmps55
  go_wp2_with fail
  clear hw0
  go_region
  have hd := zac w0
  obtain ⟨wd, hwd⟩ : ∃ x, x = w0.drew := ⟨_, rfl⟩
  rw [← hwd] at hd ⊢
  have HBd := Lib.hid (zaa HB0.out hd)
  have RPd := Lib.hid (RP.out.next hd)
  have RSd := Lib.hid (RS.out.next hd)
  have hzd : w0.heap.size ≤ wd.heap.size := hd.size
  clear p0 p1 p2 s0 s1 s2 s3 s4 s5 s6 hd hwd RP RS HB0
  obtain ⟨p0, p1, p2⟩ := zad RPd.out
  obtain ⟨s0, s1, s2, s3, s4, s5, s6⟩ := zba RSd.out
  go_wp2_with fail
  refine (rcheck_q (IsR.stb.to HR.out (zag HBd.out))).mono ?_
  rw [← Hx.out]
  rintro e w1 ⟨rfl, hb⟩
  go_wp2_with fail
  go_ret
  exact ⟨rfl, zaa HBd.out hb⟩
end Go.Proofs.YtblpaocignlpkaaGreatDoor
namespace Go.Proofs.YtblpaocignlpkaaGreatDoor
theorem rawV_snoc (l : List Rat) (x : Rat) : rawV (l ++ [x]) = rawV l ++ [raw x] := by simp [rawV]
end Go.Proofs.YtblpaocignlpkaaGreatDoor
