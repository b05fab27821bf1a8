/-
  Contracts of the reference: two, Dot.
-/
import Derived.Test.YtblpaocignlpkaaGreatDoorProofVectorSums03
import Derived.Test.YtblpaocignlpkaaGreatDoorProofVectorSums04
import Derived.Test.YtblpaocignlpkaaGreatDoorVect11
import Derived.Test.YtblpaocignlpkaaGreatDoorVect02
import Derived.Test.YtblpaocignlpkaaGreatDoorProofVectorSums05
import Derived.Test.YtblpaocignlpkaaGreatDoorVect19
import Derived.Test.YtblpaocignlpkaaGreatDoorProofVectorSums01
import Derived.Test.YtblpaocignlpkaaGreatDoorVect18
namespace Go.Proofs.YtblpaocignlpkaaGreatDoor
open Go.RowKit
set_option linter.unusedVariables false
set_option maxHeartbeats 1000000 in
theorem rtwo_l {w : World} {va vb : Value} {a b : List Raw} (ha : IsV w (Old w) va a) (hb : IsV w (Old w) vb b) : Calls Tryz.prog 85 #[va, vb] w fun e w' => e = .returned (.int .i64 (zcp a b)) ∧ Below w.heap.size w w' := by
  obtain ⟨A, cA, rfl, hla⟩ := zbf ha
  obtain ⟨B, cB, rfl, hlb⟩ := zbf hb
  have HA := Lib.hid ha
  have HV := Lib.hid hb
  obtain ⟨x, hx⟩ : ∃ x, x = chkV a := ⟨_, rfl⟩
  obtain ⟨y, hy⟩ : ∃ y, y = chkV b := ⟨_, rfl⟩
  have Hx := Lib.hid hx
  have Hy := Lib.hid hy
  clear ha hb
  go_enter Tryz.func85, Tryz.ntmps85
  go_wp2_with fail
  refine (rvcheck_l HA.out).mono ?_
  rintro e w1 ⟨rfl, hb1⟩
  rw [← Hx.out]
  have HB1 := Lib.hid hb1
  clear hb1 hx hy
  by_cases h1 : x = 0
  · subst h1
    go_wp2_with fail
    refine (rvcheck_l (IsV.stb.to HV.out (zar HB1.out))).mono ?_
    rintro e w2 ⟨rfl, hb2⟩
    rw [← Hy.out]
    have HB2 := Lib.hid (zaa HB1.out hb2)
    clear hb2
    by_cases h2 : y = 0
    · subst h2
      by_cases h3 : a.length = b.length
      · have h4 : (a.length : Int) = (b.length : Int) := by rw [h3]
        go_wp2_with fail
        go_ret
        exact ⟨by rw [zcp, ← Hx.out, ← Hy.out, if_neg (by simp), if_neg (by simp), if_neg (by simpa using h3)]; rfl, HB2.out⟩
      · have h4 : ¬ ((a.length : Int) = (b.length : Int)) := by omega
        go_wp2_with fail
        go_ret
        exact ⟨by rw [zcp, ← Hx.out, ← Hy.out, if_neg (by simp), if_neg (by simp), if_pos (by simpa using h3)]; rfl, HB2.out⟩
    · go_wp2_with fail
      go_ret
      exact ⟨by rw [zcp, ← Hx.out, ← Hy.out, if_neg (by simp), if_pos h2]; rfl, HB2.out⟩
  · go_wp2_with fail
    go_ret
    exact ⟨by rw [zcp, ← Hx.out, if_pos h1]; rfl, HB1.out⟩
set_option maxHeartbeats 1000000 in
theorem rDot_bad {w : World} {va vb : Value} {a b : List Raw} (ha : IsV w (Old w) va a) (hb : IsV w (Old w) vb b) (h0 : zcp a b ≠ 0) :
    Calls Tryz.prog 32 #[va, vb] w fun e w' => e = .returned (.tuple #[.agg #[.bool false, .slice none 0 0, .slice none 0 0], .int .i64 (zcp a b)]) ∧ Below w.heap.size w w' := by
  have HA := Lib.hid ha
  have HV := Lib.hid hb
  obtain ⟨w0, hw0, hb0, rZ, Hz⟩ := zbp w #[.bool false, .slice none 0 0, .slice none 0 0] 31
  have RZ := Lib.hid rZ
  have HB0 := Lib.hid hb0
  obtain ⟨E, hE⟩ : ∃ E, E = zcp a b := ⟨_, rfl⟩
  rw [← hE] at h0 ⊢
  have HE := Lib.hid hE
  have e0 : (E != 0) = true := bne_iff_ne.2 h0
  clear rZ hb0 ha hb hE h0
  go_enter Tryz.func32, Tryz.ntmps32
  go_wp2_with fail
  clear hw0
  refine (rtwo_l (IsV.stb.to HA.out (zar HB0.out)) (IsV.stb.to HV.out (zar HB0.out))).mono ?_
  rw [← HE.out]
  rintro e w1 ⟨rfl, hb1⟩
  have HB1 := Lib.hid (zaa HB0.out hb1)
  have RZ1 := Lib.hid (RZ.out.next hb1)
  obtain ⟨d0, d1, d2⟩ := zac RZ1.out
  obtain ⟨f0, f1, f2⟩ := zaq RZ1.out
  clear hb1
  go_wp2_with fail
  refine bodyPost_ret (zcz rfl rfl (Row.put3 RZ1.out _ _ _)) rfl ?_
  exact ⟨rfl, zbn HB1.out (by omega) _ _ _⟩
set_option maxRecDepth 100000 in
set_option maxHeartbeats 4000000 in
theorem rDot_good {w : World} {va vb : Value} {a b : List Rat} {M : Nat} {d : Rat} (ha : IsV w (Old w) va (rawV a)) (hb : IsV w (Old w) vb (rawV b)) (h0 : zcp (rawV a) (rawV b) = 0) (hla : a.length = M) (hlb : b.length = M) (hM : M ≤ 40) (sa : ∀ q ∈ a, Sz q 1024) (sb : ∀ q ∈ b, Sz q 1024) (hd : d = dotQ a b) :
    Calls Tryz.prog 32 #[va, vb] w fun e w' => (∃ v, e = .returned (.tuple #[v, .int .i64 (gapE d)]) ∧ IsR w' (Old w') v (gapR d)) ∧ Below w.heap.size w w' := by
  have HA := Lib.hid ha
  have HV := Lib.hid hb
  have Hd := Lib.hid hd
  have HE := Lib.hid h0
  have Hla := Lib.hid hla
  have Hlb := Lib.hid hlb
  have Hsa := Lib.hid sa
  have Hsb := Lib.hid sb
  obtain ⟨A, cA, rfl, _⟩ := zbf ha
  obtain ⟨B, cB, rfl, _⟩ := zbf hb
  obtain ⟨w0, hw0, hb0, rZ, Hz⟩ := zbp w #[.bool false, .slice none 0 0, .slice none 0 0] 31
  have RZ := Lib.hid rZ
  have HB0 := Lib.hid hb0
  clear rZ hb0 ha hb h0 hd hla hlb sa sb
  go_enter Tryz.func32, Tryz.ntmps32
  go_wp2_with fail
  clear hw0
  refine (rtwo_l (IsV.stb.to HA.out (zar HB0.out)) (IsV.stb.to HV.out (zar HB0.out))).mono ?_
  rw [HE.out]
  rintro e w1 ⟨rfl, hb1⟩
  have HB1 := Lib.hid (zaa HB0.out hb1)
  have RZ1 := Lib.hid (RZ.out.next hb1)
  have QA := Lib.hid (IsV.stb.to HA.out (zar HB1.out))
  have QB := Lib.hid (IsV.stb.to HV.out (zar HB1.out))
  have hg1 : w.heap.size < w1.heap.size := RZ1.out.lt
  clear hb1
  go_wp2_with fail
  have hc := product_q (M := M) QA.out QB.out Hla.out Hlb.out hM Hsa.out Hsb.out
  rw [← Hd.out] at hc
  refine hc.mono ?_
  clear hc
  rintro e w2 ⟨⟨v2, rfl, hv2⟩, hb2⟩
  have V2 := Lib.hid (IsQ.stb.old hv2)
  have HB2 := Lib.hid (zaa HB1.out hb2)
  have RZ2 := Lib.hid (RZ1.out.next hb2)
  obtain ⟨s2, P2, k2, O2, l2, rfl, _, _, _⟩ := zaj hv2
  have hs2 := hb2.size
  clear hv2 hb2
  go_wp2_with fail
  refine (rfits_q V2.out).mono ?_
  rintro e w3 ⟨⟨v3, rfl, hv3⟩, hb3⟩
  have V3 := Lib.hid hv3
  have HB3 := Lib.hid (zaa HB2.out hb3)
  have RZ3 := Lib.hid (RZ2.out.next hb3)
  obtain ⟨A3, a3, B3, b3, rfl, _, _⟩ := hv3
  obtain ⟨d0, d1, d2⟩ := zac RZ3.out
  obtain ⟨f0, f1, f2⟩ := zaq RZ3.out
  have hs3 := hb3.size
  clear hb3
  go_wp2_with fail
  refine bodyPost_ret (zcz rfl rfl (Row.put3 RZ3.out _ _ _)) rfl ?_
  exact ⟨⟨_, rfl, IsR.stb.to V3.out (zce fun b hb => ⟨by have := hb.1; omega, by show b < _; rw [zcf]; exact hb.2⟩)⟩, zbn HB3.out (by omega) _ _ _⟩
set_option maxRecDepth 100000 in
set_option maxHeartbeats 1000000 in
theorem rAdd_bad {w : World} {va vb : Value} {a b : List Raw} (ha : IsV w (Old w) va a) (hb : IsV w (Old w) vb b) (h0 : zcp a b ≠ 0) :
    Calls Tryz.prog 36 #[va, vb] w fun e w' => e = .returned (.tuple #[.slice none 0 0, .int .i64 (zcp a b)]) ∧ Below w.heap.size w w' := by
  have HA := Lib.hid ha
  have HV := Lib.hid hb
  obtain ⟨E, hE⟩ : ∃ E, E = zcp a b := ⟨_, rfl⟩
  rw [← hE] at h0 ⊢
  have HE := Lib.hid hE
  have e0 : (E != 0) = true := bne_iff_ne.2 h0
  clear ha hb hE h0
  go_enter Tryz.func36, Tryz.ntmps36
  go_wp2_with fail
  refine (rtwo_l HA.out HV.out).mono ?_
  rw [← HE.out]
  rintro e w1 ⟨rfl, hb1⟩
  have HB1 := Lib.hid hb1
  clear hb1
  go_wp2_with fail
  go_ret2
  exact ⟨rfl, HB1.out⟩
set_option maxRecDepth 100000 in
set_option maxHeartbeats 4000000 in
theorem rAdd_good {w : World} {va vb : Value} {a b : List Rat} {M : Nat} (ha : IsV w (Old w) va (rawV a)) (hb : IsV w (Old w) vb (rawV b)) (h0 : zcp (rawV a) (rawV b) = 0) (hla : a.length = M) (hlb : b.length = M) (hM : M ≤ 40) (sa : ∀ q ∈ a, Sz q 1024) (sb : ∀ q ∈ b, Sz q 1024) (hs : ∀ q ∈ addQ a b, Sz q 1024) :
    Calls Tryz.prog 36 #[va, vb] w fun e w' => (∃ v, e = .returned (.tuple #[v, .int .i64 0]) ∧ IsV w' (Old w') v (rawV (addQ a b))) ∧ Below w.heap.size w w' := by
  have HA := Lib.hid ha
  have HV := Lib.hid hb
  have HE := Lib.hid h0
  have Hs := Lib.hid hs
  have Hla := Lib.hid hla
  have Hlb := Lib.hid hlb
  have Hsa := Lib.hid sa
  have Hsb := Lib.hid sb
  obtain ⟨A, cA, rfl, _⟩ := zbf ha
  obtain ⟨B, cB, rfl, _⟩ := zbf hb
  have ela : (rawV a).length = M := by simp [rawV, hla]
  have elb : (rawV b).length = M := by simp [rawV, hlb]
  rw [ela] at HA
  rw [elb] at HV
  rw [ela, elb]
  clear ha hb h0 hla hlb sa sb hs ela elb
  go_enter Tryz.func36, Tryz.ntmps36
  go_wp2_with fail
  refine (rtwo_l HA.out HV.out).mono ?_
  rw [HE.out]
  rintro e w1 ⟨rfl, hb1⟩
  have HB1 := Lib.hid hb1
  clear hb1
  go_wp2_with fail
  go_loopw [8, 7] (fun i ov wr => ∃ (k : Nat) (S : Nat → Prop), k ≤ M ∧ i = .int .i64 (k : Int) ∧ Below w1.heap.size w1 wr ∧ Hid (OwnS 3 31 IsR wr w1.heap.size S ov (rawV ((addQ a b).take k))) ∧ Hid (∀ b, S b → w1.heap.size ≤ b)) (fun i _ _ => M - (intOf i).toNat)
  case atStart => exact ⟨0, fun _ => False, Nat.zero_le _, rfl, Below.refl _ _, OwnS.nil (fun b hb => hb.elim), fun b hb => hb.elim⟩
  case round =>
    obtain ⟨k, S, hk, rfl, hbw, hrel, hS⟩ := hrel
    have Hbw := Lib.hid hbw
    have Hown := Lib.hid hrel.out
    have HS1 := Lib.hid hS.out
    have hszw := hbw.size
    clear hrel hS
    rcases Nat.lt_or_ge k M with hlt | hge
    · obtain ⟨x, hx, hrx⟩ := zcl (l := a) (j := k) (by rw [Hla.out]; exact hlt)
      obtain ⟨y, hy, hry⟩ := zcl (l := b) (j := k) (by rw [Hlb.out]; exact hlt)
      obtain ⟨b1, o1, X1, X2, X3, X4, rfl, hSb1, helx, c0, c1, c2⟩ := zcg HA.out hrx
      obtain ⟨x0, hx0⟩ : ∃ s, s = (raw x).neg := ⟨_, rfl⟩
      obtain ⟨x1, hx1⟩ : ∃ s, s = (raw x).num.length := ⟨_, rfl⟩
      obtain ⟨x2, hx2⟩ : ∃ s, s = (raw x).den.length := ⟨_, rfl⟩
      rw [← hx0] at c0
      rw [← hx1] at c1
      rw [← hx2] at c2
      rw [← hx0, ← hx1, ← hx2] at helx
      replace c0 := HB1.out.cell (p := ⟨b1, o1 + k * 3, none⟩) hSb1 |>.trans c0
      replace c1 := HB1.out.cell (p := ⟨b1, o1 + k * 3 + 1, none⟩) hSb1 |>.trans c1
      replace c2 := HB1.out.cell (p := ⟨b1, o1 + k * 3 + 2, none⟩) hSb1 |>.trans c2
      obtain ⟨b2, o2, Y1, Y2, Y3, Y4, rfl, hSb2, hely, d0, d1, d2⟩ := zcg HV.out hry
      obtain ⟨y0, hy0⟩ : ∃ s, s = (raw y).neg := ⟨_, rfl⟩
      obtain ⟨y1, hy1⟩ : ∃ s, s = (raw y).num.length := ⟨_, rfl⟩
      obtain ⟨y2, hy2⟩ : ∃ s, s = (raw y).den.length := ⟨_, rfl⟩
      rw [← hy0] at d0
      rw [← hy1] at d1
      rw [← hy2] at d2
      rw [← hy0, ← hy1, ← hy2] at hely
      replace d0 := HB1.out.cell (p := ⟨b2, o2 + k * 3, none⟩) hSb2 |>.trans d0
      replace d1 := HB1.out.cell (p := ⟨b2, o2 + k * 3 + 1, none⟩) hSb2 |>.trans d1
      replace d2 := HB1.out.cell (p := ⟨b2, o2 + k * 3 + 2, none⟩) hSb2 |>.trans d2
      have E := Lib.hid (And.intro c0 (And.intro c1 (And.intro c2 (And.intro d0 (And.intro d1 d2)))))
      have Qx := Lib.hid (IsQ.stb.to (zdf helx) (zar (zaa HB1.out hbw)))
      have Qy := Lib.hid (IsQ.stb.to (zdf hely) (zar (zaa HB1.out hbw)))
      obtain ⟨z, hz⟩ : ∃ z, z = x + y := ⟨_, rfl⟩
      have Hz := Lib.hid hz
      have Hend : Hid ((addQ a b)[k]? = some z) := by rw [Hid, hz]; exact addQ_at hx hy
      have Hsx : Hid (Sz x 100000) := (Hsa.out x (List.mem_of_getElem? hx)).le (by omega)
      have Hsy : Hid (Sz y 100000) := (Hsb.out y (List.mem_of_getElem? hy)).le (by omega)
      have cr := zbm
      have c0 := zad hbw c0
      have c1 := zad hbw c1
      have c2 := zad hbw c2
      have d0 := zad hbw d0
      have d1 := zad hbw d1
      have d2 := zad hbw d2
      clear hx hy hrx hry helx hely hx0 hx1 hx2 hy0 hy1 hy2 hz
      have hk0 : (0 : Int) ≤ (k : Int) := by omega
      have hk1 : (k : Int) < (M : Int) := by omega
      go_wp2_with fail
      have HS : Hid (∀ W : World, Below w1.heap.size w1 W → W.cell? ⟨b1, o1 + k * 3, none⟩ = some (.bool x0) ∧ W.cell? ⟨b1, o1 + k * 3 + 1, none⟩ = some (.slice X1 x1 X2) ∧ W.cell? ⟨b1, o1 + k * 3 + 2, none⟩ = some (.slice X3 x2 X4) ∧ W.cell? ⟨b2, o2 + k * 3, none⟩ = some (.bool y0) ∧ W.cell? ⟨b2, o2 + k * 3 + 1, none⟩ = some (.slice Y1 y1 Y2) ∧ W.cell? ⟨b2, o2 + k * 3 + 2, none⟩ = some (.slice Y3 y2 Y4)) := fun W hW => ⟨zad hW E.out.1, zad hW E.out.2.1, zad hW E.out.2.2.1, zad hW E.out.2.2.2.1, zad hW E.out.2.2.2.2.1, zad hW E.out.2.2.2.2.2⟩
      have D5 : Hid (∀ W : World, Below wr.heap.size wr W → Calls Tryz.prog 42 #[.agg #[.bool x0, .slice X1 x1 X2, .slice X3 x2 X4], .agg #[.bool y0, .slice Y1 y1 Y2, .slice Y3 y2 Y4]] W (RetQ W z)) := fun W hW => raddq (IsQ.stb.next Qx.out hW) (IsQ.stb.next Qy.out hW) Hsx.out Hsy.out Hz.out
      go_region_held3 (fun w' => w'.cell? ⟨b1, o1 + k * 3, none⟩ = some (.bool x0) ∧ w'.cell? ⟨b1, o1 + k * 3 + 1, none⟩ = some (.slice X1 x1 X2) ∧ w'.cell? ⟨b1, o1 + k * 3 + 2, none⟩ = some (.slice X3 x2 X4) ∧ w'.cell? ⟨b2, o2 + k * 3, none⟩ = some (.bool y0) ∧ w'.cell? ⟨b2, o2 + k * 3 + 1, none⟩ = some (.slice Y1 y1 Y2) ∧ w'.cell? ⟨b2, o2 + k * 3 + 2, none⟩ = some (.slice Y3 y2 Y4))
        (exact HS.out _ (by (repeat (first | exact Below.refl _ _ | assumption | refine zah ?_ _ | refine zak ?_ | refine zal ?_ ?_ _ _ _ | refine zan ?_ (by omega) | refine zaa ?_ (by assumption))); (first | done | fail)))
        (first
          | (go_at_call 42; (with_reducible refine Calls.mono (D5.out _ (by (repeat (first | exact Below.refl _ _ | assumption | refine zah ?_ _ | refine zak ?_ | refine zal ?_ ?_ _ _ _ | refine zan ?_ (by omega) | refine zaa ?_ (by assumption))); (first | done | fail))) ?_); rintro e w5 ⟨⟨v5, rfl, hv5⟩, hb5⟩; have V5 := Lib.hid (IsQ.stb.old hv5); obtain ⟨s5, P5, k5, O5, l5, rfl, _, _, _⟩ := zaj hv5; have hB5 : Below wr.heap.size wr w5 := (by (repeat (first | exact Below.refl _ _ | assumption | refine zah ?_ _ | refine zak ?_ | refine zal ?_ ?_ _ _ _ | refine zan ?_ (by omega) | refine zaa ?_ (by assumption))); (first | done | fail)); have HO := Lib.hid (OwnS.step IsR.stb (T := (fun b => S b ∨ (wr.heap.size ≤ b ∧ b < w5.heap.size))) Hown.out hB5 (fun b h => .inl h) (fun b h => h)); have HE := Lib.hid (IsQ.stb.to hv5 (zba (T := (fun b => S b ∨ (wr.heap.size ≤ b ∧ b < w5.heap.size))) fun b h => .inr ⟨Nat.le_trans (Below.size (w := wr) (by (repeat (first | exact Below.refl _ _ | assumption | refine zah ?_ _ | refine zak ?_ | refine zal ?_ ?_ _ _ _ | refine zan ?_ (by omega) | refine zaa ?_ (by assumption))); (first | done | fail))) h.1, h.2⟩)); have hb5w : w1.heap.size ≤ w5.heap.size := Nat.le_trans hszw hB5.size)
          | (refine step_appS elR rfl _ _ rfl IsR.stb rfl rfl rfl HO.out HE.out rfl (by intro u hu; simp [Value.cells] at hu; rcases hu with rfl | rfl | rfl <;> rfl) (by have h1 := List.length_take_le k (addQ a b); rw [zes]; omega) hb5w ?_; intro v6 w6 hown6 hb6 hz6; have hB6 : Below w1.heap.size w1 w6 := Below.trans (Hbw.out.trans (hB5.mono hszw)) hb6))
      go_wp2_with fail
      go_roundw
      case rel =>
        refine ⟨k + 1, (fun b => S b ∨ (wr.heap.size ≤ b ∧ b < w5.heap.size)), by omega, by go_num, hB6, ?_, fun b hb => by rcases hb with hb | hb; exact HS1.out b hb; exact Nat.le_trans hszw hb.1⟩
        rw [zcn Hend.out, rawV_snoc]
        exact hown6
      case measure => simp [intOf]; omega
    · obtain rfl : k = M := by omega
      have e : (addQ a b).take k = addQ a b := List.take_of_length_le (by rw [addQ_len Hla.out Hlb.out]; exact Nat.le_refl _)
      rw [e] at Hown
      have hV : IsV wr (Old wr) _ (rawV (addQ a b)) := OwnS.isS IsR.stb (T := Old wr) Hown.out (fun b hb => by obtain ⟨_, _, _, _, h4⟩ := Hown.out; exact (h4 b hb).1) (fun b h1 h2 => h2)
      have HVV := Lib.hid hV
      clear hV e hbw
      go_wp2_with fail
      refine (rfitsv_l HVV.out Hs.out (by rw [addQ_len Hla.out Hlb.out]; omega)).mono ?_
      rintro e w9 ⟨⟨v9, rfl, hv9⟩, hb9⟩
      have HB9 := Lib.hid (zaa (zaa HB1.out Hbw.out) hb9)
      have V9 := Lib.hid (IsV.stb.old hv9)
      clear hv9 hb9
      go_wp2_with fail
      go_ret2
      exact ⟨⟨_, rfl, V9.out⟩, HB9.out⟩
set_option maxRecDepth 100000 in
set_option maxHeartbeats 1000000 in
theorem rScale_bad {w : World} {va vx : Value} {a : List Raw} {r : Raw} (ha : IsV w (Old w) va a) (hx : IsR w (Old w) vx r) (h0 : zdx a r ≠ 0) :
    Calls Tryz.prog 38 #[va, vx] w fun e w' => e = .returned (.tuple #[.slice none 0 0, .int .i64 (zdx a r)]) ∧ Below w.heap.size w w' := by
  have HA := Lib.hid ha
  have HX := Lib.hid hx
  obtain ⟨X1, X2, X3, X4, rfl, _, _⟩ := hx
  obtain ⟨E, hE⟩ : ∃ E, E = zdx a r := ⟨_, rfl⟩
  obtain ⟨y, hy⟩ : ∃ y, y = chkV a := ⟨_, rfl⟩
  obtain ⟨z, hz⟩ : ∃ z, z = chkQ r := ⟨_, rfl⟩
  rw [← hE] at h0 ⊢
  unfold zdx at hE
  rw [← hy, ← hz] at hE
  have HE := Lib.hid hE
  have Hy := Lib.hid hy
  have Hz := Lib.hid hz
  obtain ⟨w0, hw0, hb0, rX, Hz0⟩ := zbp w #[.bool r.neg, .slice X1 r.num.length X2, .slice X3 r.den.length X4] 31
  have HB0 := Lib.hid hb0
  have RX := Lib.hid rX
  clear ha hE hy hz rX hb0
  go_enter Tryz.func38, Tryz.ntmps38
  go_wp2_with fail
  clear hw0
  refine (rvcheck_l (IsV.stb.next HA.out HB0.out)).mono ?_
  rw [← Hy.out]
  rintro e w1 ⟨rfl, hb1⟩
  have HB1 := Lib.hid (zaa HB0.out hb1)
  have RX1 := Lib.hid (RX.out.next hb1)
  obtain ⟨c0, c1, c2⟩ := zac RX1.out
  clear hb1
  by_cases h1 : y = 0
  · subst h1
    have e0 : E = z := by have := HE.out; simpa using this
    subst e0
    have e1 : (E != 0) = true := bne_iff_ne.2 h0
    go_wp2_with fail
    refine (rcheck_q (IsR.stb.next HX.out HB1.out)).mono ?_
    rw [← Hz.out]
    rintro e w2 ⟨rfl, hb2⟩
    have HB2 := Lib.hid (zaa HB1.out hb2)
    clear hb2
    go_wp2_with fail
    go_ret2
    exact ⟨rfl, HB2.out⟩
  · have e0 : E = y := by have := HE.out; rw [if_pos h1] at this; exact this
    subst e0
    have e1 : (E != 0) = true := bne_iff_ne.2 h0
    go_wp2_with fail
    go_ret2
    exact ⟨rfl, HB1.out⟩
set_option maxRecDepth 100000 in
set_option maxHeartbeats 4000000 in
theorem rScale_good {w : World} {va vx : Value} {a : List Rat} {y : Rat} {M : Nat} (ha : IsV w (Old w) va (rawV a)) (hx : IsQ w (Old w) vx y) (h0 : zdx (rawV a) (raw y) = 0) (hla : a.length = M) (hM : M ≤ 40) (sa : ∀ q ∈ a, Sz q 1024) (sy : Sz y 1024) (hs : ∀ q ∈ zcs a y, Sz q 1024) :
    Calls Tryz.prog 38 #[va, vx] w fun e w' => (∃ v, e = .returned (.tuple #[v, .int .i64 0]) ∧ IsV w' (Old w') v (rawV (zcs a y))) ∧ Below w.heap.size w w' := by
  have HA := Lib.hid ha
  have HX := Lib.hid hx
  have HE := Lib.hid (zfk h0)
  have Hs := Lib.hid hs
  have Hla := Lib.hid hla
  have Hsa := Lib.hid sa
  have Hsy : Hid (Sz y 100000) := sy.le (by omega)
  obtain ⟨A, cA, rfl, _⟩ := zbf ha
  have ela : (rawV a).length = M := by simp [rawV, hla]
  rw [ela] at HA
  rw [ela]
  obtain ⟨Y1, Y2, Y3, Y4, rfl, _, _⟩ := (show IsR w (Old w) vx (raw y) from hx)
  obtain ⟨y0, hy0⟩ : ∃ s, s = (raw y).neg := ⟨_, rfl⟩
  obtain ⟨y1, hy1⟩ : ∃ s, s = (raw y).num.length := ⟨_, rfl⟩
  obtain ⟨y2, hy2⟩ : ∃ s, s = (raw y).den.length := ⟨_, rfl⟩
  rw [← hy0, ← hy1, ← hy2] at HX ⊢
  obtain ⟨w0, hw0, hb0, rX, Hz0⟩ := zbp w #[.bool y0, .slice Y1 y1 Y2, .slice Y3 y2 Y4] 31
  have HB0 := Lib.hid hb0
  have RX := Lib.hid rX
  clear ha hx h0 hla sa hs ela hy0 hy1 hy2 rX hb0
  go_enter Tryz.func38, Tryz.ntmps38
  go_wp2_with fail
  clear hw0
  refine (rvcheck_l (IsV.stb.next HA.out HB0.out)).mono ?_
  rw [HE.out.1]
  rintro e w1 ⟨rfl, hb1⟩
  have HB1 := Lib.hid (zaa HB0.out hb1)
  have RX1 := Lib.hid (RX.out.next hb1)
  obtain ⟨c0, c1, c2⟩ := zac RX1.out
  clear hb1
  go_wp2_with fail
  refine (rcheck_q (r := raw y) (IsQ.stb.next HX.out HB1.out)).mono ?_
  rw [HE.out.2]
  rintro e w2 ⟨rfl, hb2⟩
  have HB2 := Lib.hid (zaa HB1.out hb2)
  have RX2 := Lib.hid (RX1.out.next hb2)
  have hz2 := RX2.out.lt
  clear hb2 c0 c1 c2
  go_wp2_with fail
  go_loopw [9, 8] (fun i ov wr => ∃ (k : Nat) (S : Nat → Prop), k ≤ M ∧ i = .int .i64 (k : Int) ∧ Below w2.heap.size w2 wr ∧ Row wr w.heap.size 31 [.bool y0, .slice Y1 y1 Y2, .slice Y3 y2 Y4] ∧ Hid (OwnS 3 31 IsR wr w2.heap.size S ov (rawV ((zcs a y).take k))) ∧ Hid (∀ b, S b → w2.heap.size ≤ b)) (fun i _ _ => M - (intOf i).toNat)
  case atStart => exact ⟨0, fun _ => False, Nat.zero_le _, rfl, Below.refl _ _, RX2.out, OwnS.nil (fun b hb => hb.elim), fun b hb => hb.elim⟩
  case round =>
    obtain ⟨k, S, hk, rfl, hbw, hrow, hrel, hS⟩ := hrel
    have Hbw := Lib.hid hbw
    have HRw := Lib.hid hrow
    have Hown := Lib.hid hrel.out
    have HS1 := Lib.hid hS.out
    have hszw := hbw.size
    have hlt1 := hrow.lt
    obtain ⟨d0, d1, d2⟩ := zac RX2.out
    clear hrel hS hrow
    rcases Nat.lt_or_ge k M with hlt | hge
    · obtain ⟨x, hx, hrx⟩ := zcl (l := a) (j := k) (by rw [Hla.out]; exact hlt)
      obtain ⟨b1, o1, X1, X2, X3, X4, rfl, hSb1, helx, c0, c1, c2⟩ := zcg HA.out hrx
      obtain ⟨x0, hx0⟩ : ∃ s, s = (raw x).neg := ⟨_, rfl⟩
      obtain ⟨x1, hx1⟩ : ∃ s, s = (raw x).num.length := ⟨_, rfl⟩
      obtain ⟨x2, hx2⟩ : ∃ s, s = (raw x).den.length := ⟨_, rfl⟩
      rw [← hx0] at c0
      rw [← hx1] at c1
      rw [← hx2] at c2
      rw [← hx0, ← hx1, ← hx2] at helx
      replace c0 := HB2.out.cell (p := ⟨b1, o1 + k * 3, none⟩) hSb1 |>.trans c0
      replace c1 := HB2.out.cell (p := ⟨b1, o1 + k * 3 + 1, none⟩) hSb1 |>.trans c1
      replace c2 := HB2.out.cell (p := ⟨b1, o1 + k * 3 + 2, none⟩) hSb1 |>.trans c2
      have E := Lib.hid (And.intro c0 (And.intro c1 (And.intro c2 (And.intro d0 (And.intro d1 d2)))))
      have Qx := Lib.hid (IsQ.stb.to (zdf helx) (zar (zaa HB2.out hbw)))
      have Qy := Lib.hid (IsQ.stb.next HX.out (zaa HB2.out hbw))
      obtain ⟨z, hz⟩ : ∃ z, z = x * y := ⟨_, rfl⟩
      have Hz := Lib.hid hz
      have Hend : Hid ((zcs a y)[k]? = some z) := by rw [Hid, hz]; exact scaleQ_at hx
      have Hsx : Hid (Sz x 100000) := (Hsa.out x (List.mem_of_getElem? hx)).le (by omega)
      have cr := zbm
      have c0 := zad hbw c0
      have c1 := zad hbw c1
      have c2 := zad hbw c2
      have d0 := zad hbw d0
      have d1 := zad hbw d1
      have d2 := zad hbw d2
      clear hx hrx helx hx0 hx1 hx2 hz
      have hk0 : (0 : Int) ≤ (k : Int) := by omega
      have hk1 : (k : Int) < (M : Int) := by omega
      go_wp2_with fail
      have HS : Hid (∀ W : World, Below w2.heap.size w2 W → W.cell? ⟨b1, o1 + k * 3, none⟩ = some (.bool x0) ∧ W.cell? ⟨b1, o1 + k * 3 + 1, none⟩ = some (.slice X1 x1 X2) ∧ W.cell? ⟨b1, o1 + k * 3 + 2, none⟩ = some (.slice X3 x2 X4) ∧ W.cell? ⟨w.heap.size, 0, none⟩ = some (.bool y0) ∧ W.cell? ⟨w.heap.size, 1, none⟩ = some (.slice Y1 y1 Y2) ∧ W.cell? ⟨w.heap.size, 2, none⟩ = some (.slice Y3 y2 Y4)) := fun W hW => ⟨zad hW E.out.1, zad hW E.out.2.1, zad hW E.out.2.2.1, zad hW E.out.2.2.2.1, zad hW E.out.2.2.2.2.1, zad hW E.out.2.2.2.2.2⟩
      have D5 : Hid (∀ W : World, Below wr.heap.size wr W → Calls Tryz.prog 43 #[.agg #[.bool x0, .slice X1 x1 X2, .slice X3 x2 X4], .agg #[.bool y0, .slice Y1 y1 Y2, .slice Y3 y2 Y4]] W (RetQ W z)) := fun W hW => rmulq (IsQ.stb.next Qx.out hW) (IsQ.stb.next Qy.out hW) Hsx.out Hsy.out Hz.out
      go_region_held3 (fun w' => w'.cell? ⟨b1, o1 + k * 3, none⟩ = some (.bool x0) ∧ w'.cell? ⟨b1, o1 + k * 3 + 1, none⟩ = some (.slice X1 x1 X2) ∧ w'.cell? ⟨b1, o1 + k * 3 + 2, none⟩ = some (.slice X3 x2 X4) ∧ w'.cell? ⟨w.heap.size, 0, none⟩ = some (.bool y0) ∧ w'.cell? ⟨w.heap.size, 1, none⟩ = some (.slice Y1 y1 Y2) ∧ w'.cell? ⟨w.heap.size, 2, none⟩ = some (.slice Y3 y2 Y4))
        (exact HS.out _ (by (repeat (first | exact Below.refl _ _ | assumption | refine zah ?_ _ | refine zak ?_ | refine zal ?_ ?_ _ _ _ | refine zan ?_ (by omega) | refine zaa ?_ (by assumption))); (first | done | fail)))
        (first
          | (go_at_call 43; (with_reducible refine Calls.mono (D5.out _ (by (repeat (first | exact Below.refl _ _ | assumption | refine zah ?_ _ | refine zak ?_ | refine zal ?_ ?_ _ _ _ | refine zan ?_ (by omega) | refine zaa ?_ (by assumption))); (first | done | fail))) ?_); rintro e w5 ⟨⟨v5, rfl, hv5⟩, hb5⟩; have V5 := Lib.hid (IsQ.stb.old hv5); obtain ⟨s5, P5, k5, O5, l5, rfl, _, _, _⟩ := zaj hv5; have hB5 : Below wr.heap.size wr w5 := (by (repeat (first | exact Below.refl _ _ | assumption | refine zah ?_ _ | refine zak ?_ | refine zal ?_ ?_ _ _ _ | refine zan ?_ (by omega) | refine zaa ?_ (by assumption))); (first | done | fail)); have HO := Lib.hid (OwnS.step IsR.stb (T := (fun b => S b ∨ (wr.heap.size ≤ b ∧ b < w5.heap.size))) Hown.out hB5 (fun b h => .inl h) (fun b h => h)); have HE := Lib.hid (IsQ.stb.to hv5 (zba (T := (fun b => S b ∨ (wr.heap.size ≤ b ∧ b < w5.heap.size))) fun b h => .inr ⟨Nat.le_trans (Below.size (w := wr) (by (repeat (first | exact Below.refl _ _ | assumption | refine zah ?_ _ | refine zak ?_ | refine zal ?_ ?_ _ _ _ | refine zan ?_ (by omega) | refine zaa ?_ (by assumption))); (first | done | fail))) h.1, h.2⟩)); have hb5w : w2.heap.size ≤ w5.heap.size := Nat.le_trans hszw hB5.size)
          | (refine step_appS elR rfl _ _ rfl IsR.stb rfl rfl rfl HO.out HE.out rfl (by intro u hu; simp [Value.cells] at hu; rcases hu with rfl | rfl | rfl <;> rfl) (by have h1 := List.length_take_le k (zcs a y); rw [zes]; omega) hb5w ?_; intro v6 w6 hown6 hb6 hz6; have hB6 : Below w2.heap.size w2 w6 := Below.trans (Hbw.out.trans (hB5.mono hszw)) hb6))
      go_wp2_with fail
      go_roundw
      case rel =>
        refine ⟨k + 1, (fun b => S b ∨ (wr.heap.size ≤ b ∧ b < w5.heap.size)), by omega, by go_num, hB6, Row.below (Row.next HRw.out hB5) hb6 hz2, ?_, fun b hb => by rcases hb with hb | hb; exact HS1.out b hb; exact Nat.le_trans hszw hb.1⟩
        rw [zcn Hend.out, rawV_snoc]
        exact hown6
      case measure => simp [intOf]; omega
    · obtain rfl : k = M := by omega
      have e : (zcs a y).take k = zcs a y := List.take_of_length_le (by rw [scaleQ_len, Hla.out]; exact Nat.le_refl _)
      rw [e] at Hown
      have hV : IsV wr (Old wr) _ (rawV (zcs a y)) := OwnS.isS IsR.stb (T := Old wr) Hown.out (fun b hb => by obtain ⟨_, _, _, _, h4⟩ := Hown.out; exact (h4 b hb).1) (fun b h1 h2 => h2)
      have HVV := Lib.hid hV
      clear hV e hbw d0 d1 d2
      go_wp2_with fail
      refine (rfitsv_l HVV.out Hs.out (by rw [scaleQ_len, Hla.out]; omega)).mono ?_
      rintro e w9 ⟨⟨v9, rfl, hv9⟩, hb9⟩
      have HB9 := Lib.hid (zaa (zaa HB2.out Hbw.out) hb9)
      have V9 := Lib.hid (IsV.stb.old hv9)
      clear hv9 hb9
      go_wp2_with fail
      go_ret2
      exact ⟨⟨_, rfl, V9.out⟩, HB9.out⟩
theorem isV_row1 {w : World} {g : Nat} {t : TypeId} {r : Raw} {P Q : Option Addr} {k d : Nat} (h : Row w g t [.bool r.neg, .slice P r.num.length k, .slice Q r.den.length d]) (hr : IsR w (Old w) (.agg #[.bool r.neg, .slice P r.num.length k, .slice Q r.den.length d]) r) : IsV w (Old w) (.slice (some ⟨g, 0, none⟩) 1 1) [r] :=
  isS_row (es := [.agg #[.bool r.neg, .slice P r.num.length k, .slice Q r.den.length d]]) (l := [r]) h h.lt (by intro u hu; simp at hu; subst hu; rfl) (all2_one hr) (by simp)
def DotC (w : World) (f : FuncId) (a b : List Raw) (g : Raw) (e : Int) : Prop := ∀ (W : World) (v u : Value), Below w.heap.size w W → IsV W (Old W) v a → IsV W (Old W) u b → Calls Tryz.prog f #[v, u] W fun en w' => (∃ x, en = .returned (.tuple #[x, .int .i64 e]) ∧ IsR w' (Old w') x g) ∧ Below W.heap.size W w'
def VecC (w : World) (f : FuncId) (a b : List Raw) (l : List Raw) (e : Int) : Prop := ∀ (W : World) (v u : Value), Below w.heap.size w W → IsV W (Old W) v a → IsV W (Old W) u b → Calls Tryz.prog f #[v, u] W fun en w' => (∃ x, en = .returned (.tuple #[x, .int .i64 e]) ∧ IsV w' (Old w') x l) ∧ Below W.heap.size W w'
def SclC (w : World) (f : FuncId) (a : List Raw) (r : Raw) (l : List Raw) (e : Int) : Prop := ∀ (W : World) (v u : Value), Below w.heap.size w W → IsV W (Old W) v a → IsR W (Old W) u r → Calls Tryz.prog f #[v, u] W fun en w' => (∃ x, en = .returned (.tuple #[x, .int .i64 e]) ∧ IsV w' (Old w') x l) ∧ Below W.heap.size W w'
theorem isV_nil {w : World} {S : Nat → Prop} : IsV w S (.slice none 0 0) [] := IsS.nil
set_option maxRecDepth 100000 in
set_option maxHeartbeats 8000000 in
theorem zen {w : World} {va vb vx : Value} {a b l m : List Raw} {r g : Raw} {e1 e2 e3 : Int} (ha : IsV w (Old w) va a) (hb : IsV w (Old w) vb b) (hx : IsR w (Old w) vx r) (hB : Bru w)
    (h1 : ShortV a → ShortV b → ShortV [r] → DotC w 31 a b g e1 ∧ DotC w 32 a b g e1 ∧ VecC w 35 a b l e2 ∧ VecC w 36 a b l e2 ∧ SclC w 37 a r m e3 ∧ SclC w 38 a r m e3) :
    Calls Tryz.prog 6 #[va, vb, vx] w fun en w' => en = .returned (.bool true) ∧ Below w.heap.size w w' := by
  have VA := Lib.hid ha
  have VB := Lib.hid hb
  have XR := Lib.hid hx
  have HB := Lib.hid hB
  have HC := Lib.hid h1
  obtain ⟨P, k, Q, d, rfl, _, _⟩ := hx
  obtain ⟨A, cA, rfl, _⟩ := zbf ha
  obtain ⟨B, cB, rfl, _⟩ := zbf hb
  obtain ⟨la, hla⟩ : ∃ n, n = a.length := ⟨_, rfl⟩
  obtain ⟨lb, hlb⟩ : ∃ n, n = b.length := ⟨_, rfl⟩
  obtain ⟨y, hy⟩ : ∃ y, y = chkV a := ⟨_, rfl⟩
  have HY := Lib.hid hy
  rw [← hla] at VA ⊢
  rw [← hlb] at VB ⊢
  obtain ⟨w0, hw0, hb0, rB, Hz⟩ := zbp w #[.bool r.neg, .slice P r.num.length k, .slice Q r.den.length d] 31
  have BB := Lib.hid hb0
  have RB := Lib.hid rB
  replace VA := Lib.hid (IsV.stb.next VA.out hb0)
  replace VB := Lib.hid (IsV.stb.next VB.out hb0)
  replace XR := Lib.hid (IsR.stb.next XR.out hb0)
  clear ha hb hB h1 hla hlb hy rB hb0
  go_enter Tryz.func6, Tryz.ntmps6
  obtain ⟨rb0_0, rb1_0, rb2_0⟩ := zac RB.out
  go_wp2_with fail
  clear hw0
  refine (long3_s VA.out).mono ?_
  rintro e w1 ⟨⟨b, rfl, hs⟩, hb⟩
  replace BB := Lib.hid (zaa BB.out hb)
  replace VA := Lib.hid (IsV.stb.next VA.out hb)
  replace VB := Lib.hid (IsV.stb.next VB.out hb)
  replace XR := Lib.hid (IsR.stb.next XR.out hb)
  replace RB := Lib.hid (RB.out.next hb)
  clear rb0_0 rb1_0 rb2_0
  obtain ⟨rb0_1, rb1_1, rb2_1⟩ := zac RB.out
  have S1 := Lib.hid hs
  clear hb hs
  cases b
  case true =>
    go_wp2_with fail
    refine (awake3_l (Bru.next HB.out BB.out)).mono ?_
    rintro e wz ⟨rfl, hb⟩
    go_wp2_with fail
    go_ret
    exact ⟨rfl, zaa BB.out hb⟩
  replace S1 := Lib.hid (S1.out rfl)
  go_wp2_with fail
  refine (long3_s VB.out).mono ?_
  rintro e w2 ⟨⟨b, rfl, hs⟩, hb⟩
  replace BB := Lib.hid (zaa BB.out hb)
  replace VA := Lib.hid (IsV.stb.next VA.out hb)
  replace VB := Lib.hid (IsV.stb.next VB.out hb)
  replace XR := Lib.hid (IsR.stb.next XR.out hb)
  replace RB := Lib.hid (RB.out.next hb)
  clear rb0_1 rb1_1 rb2_1
  obtain ⟨rb0_2, rb1_2, rb2_2⟩ := zac RB.out
  have S2 := Lib.hid hs
  clear hb hs
  cases b
  case true =>
    go_wp2_with fail
    refine (awake3_l (Bru.next HB.out BB.out)).mono ?_
    rintro e wz ⟨rfl, hb⟩
    go_wp2_with fail
    go_ret
    exact ⟨rfl, zaa BB.out hb⟩
  replace S2 := Lib.hid (S2.out rfl)
  go_wp2_with fail
  have hbn := zbe w2 (.cells #[.bool r.neg, .slice P r.num.length k, .slice Q r.den.length d] 31)
  refine (long3_s (isV_row1 (heap_alloc_new w2 _) (IsR.stb.next XR.out hbn))).mono ?_
  rintro e w3 ⟨⟨b, rfl, hs⟩, hb⟩
  replace hb := zaa hbn hb
  clear hbn
  replace BB := Lib.hid (zaa BB.out hb)
  replace VA := Lib.hid (IsV.stb.next VA.out hb)
  replace VB := Lib.hid (IsV.stb.next VB.out hb)
  replace XR := Lib.hid (IsR.stb.next XR.out hb)
  replace RB := Lib.hid (RB.out.next hb)
  clear rb0_2 rb1_2 rb2_2
  obtain ⟨rb0_3, rb1_3, rb2_3⟩ := zac RB.out
  have S3 := Lib.hid hs
  clear hb hs
  cases b
  case true =>
    go_wp2_with fail
    refine (awake3_l (Bru.next HB.out BB.out)).mono ?_
    rintro e wz ⟨rfl, hb⟩
    go_wp2_with fail
    go_ret
    exact ⟨rfl, zaa BB.out hb⟩
  replace S3 := Lib.hid (S3.out rfl)
  obtain ⟨c1, c2, c3, c4, c5, c6⟩ := HC.out S1.out.2 S2.out.2 S3.out.2
  have C1 := Lib.hid c1
  have C2 := Lib.hid c2
  have C3 := Lib.hid c3
  have C4 := Lib.hid c4
  have C5 := Lib.hid c5
  have C6 := Lib.hid c6
  clear c1 c2 c3 c4 c5 c6 HC
  go_wp2_with fail
  refine (own_v VA.out S1.out.2 (by have := S1.out.1; omega)).mono ?_
  rintro e w4 ⟨⟨vOA, rfl, h⟩, hb⟩
  replace BB := Lib.hid (zaa BB.out hb)
  replace VA := Lib.hid (IsV.stb.next VA.out hb)
  replace VB := Lib.hid (IsV.stb.next VB.out hb)
  replace XR := Lib.hid (IsR.stb.next XR.out hb)
  replace RB := Lib.hid (RB.out.next hb)
  clear rb0_3 rb1_3 rb2_3
  obtain ⟨rb0_4, rb1_4, rb2_4⟩ := zac RB.out
  have OA := Lib.hid (IsV.stb.old h)
  clear h hb
  go_wp2_with fail
  refine (own_v VB.out S2.out.2 (by have := S2.out.1; omega)).mono ?_
  rintro e w5 ⟨⟨vOB, rfl, h⟩, hb⟩
  replace BB := Lib.hid (zaa BB.out hb)
  replace VA := Lib.hid (IsV.stb.next VA.out hb)
  replace VB := Lib.hid (IsV.stb.next VB.out hb)
  replace XR := Lib.hid (IsR.stb.next XR.out hb)
  replace RB := Lib.hid (RB.out.next hb)
  replace OA := Lib.hid (IsV.stb.next OA.out hb)
  clear rb0_4 rb1_4 rb2_4
  obtain ⟨rb0_5, rb1_5, rb2_5⟩ := zac RB.out
  have OB := Lib.hid (IsV.stb.old h)
  clear h hb
  go_wp2_with fail
  refine (C1.out _ _ _ BB.out OA.out OB.out).mono ?_
  rintro e w6 ⟨⟨xD1, rfl, h⟩, hb⟩
  replace BB := Lib.hid (zaa BB.out hb)
  replace VA := Lib.hid (IsV.stb.next VA.out hb)
  replace VB := Lib.hid (IsV.stb.next VB.out hb)
  replace XR := Lib.hid (IsR.stb.next XR.out hb)
  replace RB := Lib.hid (RB.out.next hb)
  replace OA := Lib.hid (IsV.stb.next OA.out hb)
  replace OB := Lib.hid (IsV.stb.next OB.out hb)
  clear rb0_5 rb1_5 rb2_5
  obtain ⟨rb0_6, rb1_6, rb2_6⟩ := zac RB.out
  have D1 := Lib.hid h
  obtain ⟨PD1, kD1, QD1, dD1, rfl, _, _⟩ := h
  clear hb
  obtain ⟨w7, hxw7, hb, r, _⟩ := zbp w6 #[.bool g.neg, .slice PD1 g.num.length kD1, .slice QD1 g.den.length dD1] 31
  replace BB := Lib.hid (zaa BB.out hb)
  replace VA := Lib.hid (IsV.stb.next VA.out hb)
  replace VB := Lib.hid (IsV.stb.next VB.out hb)
  replace XR := Lib.hid (IsR.stb.next XR.out hb)
  replace RB := Lib.hid (RB.out.next hb)
  replace OA := Lib.hid (IsV.stb.next OA.out hb)
  replace OB := Lib.hid (IsV.stb.next OB.out hb)
  replace D1 := Lib.hid (IsR.stb.next D1.out hb)
  clear rb0_6 rb1_6 rb2_6
  obtain ⟨rb0_7, rb1_7, rb2_7⟩ := zac RB.out
  have R1 := Lib.hid r
  clear r hb
  clear rb0_7 rb1_7 rb2_7
  obtain ⟨rb0_7, rb1_7, rb2_7⟩ := zac RB.out
  obtain ⟨r10_7, r11_7, r12_7⟩ := zac R1.out
  go_wp2_with fail
  clear hxw7
  refine (C2.out _ _ _ BB.out VA.out VB.out).mono ?_
  rintro e w8 ⟨⟨xD2, rfl, h⟩, hb⟩
  replace BB := Lib.hid (zaa BB.out hb)
  replace VA := Lib.hid (IsV.stb.next VA.out hb)
  replace VB := Lib.hid (IsV.stb.next VB.out hb)
  replace XR := Lib.hid (IsR.stb.next XR.out hb)
  replace RB := Lib.hid (RB.out.next hb)
  replace OA := Lib.hid (IsV.stb.next OA.out hb)
  replace OB := Lib.hid (IsV.stb.next OB.out hb)
  replace D1 := Lib.hid (IsR.stb.next D1.out hb)
  replace R1 := Lib.hid (R1.out.next hb)
  clear rb0_7 rb1_7 rb2_7
  obtain ⟨rb0_8, rb1_8, rb2_8⟩ := zac RB.out
  clear r10_7 r11_7 r12_7
  obtain ⟨r10_8, r11_8, r12_8⟩ := zac R1.out
  have D2 := Lib.hid h
  obtain ⟨PD2, kD2, QD2, dD2, rfl, _, _⟩ := h
  clear hb
  obtain ⟨w9, hxw9, hb, r, _⟩ := zbp w8 #[.bool g.neg, .slice PD2 g.num.length kD2, .slice QD2 g.den.length dD2] 31
  replace BB := Lib.hid (zaa BB.out hb)
  replace VA := Lib.hid (IsV.stb.next VA.out hb)
  replace VB := Lib.hid (IsV.stb.next VB.out hb)
  replace XR := Lib.hid (IsR.stb.next XR.out hb)
  replace RB := Lib.hid (RB.out.next hb)
  replace OA := Lib.hid (IsV.stb.next OA.out hb)
  replace OB := Lib.hid (IsV.stb.next OB.out hb)
  replace D1 := Lib.hid (IsR.stb.next D1.out hb)
  replace R1 := Lib.hid (R1.out.next hb)
  replace D2 := Lib.hid (IsR.stb.next D2.out hb)
  clear rb0_8 rb1_8 rb2_8
  obtain ⟨rb0_9, rb1_9, rb2_9⟩ := zac RB.out
  clear r10_8 r11_8 r12_8
  obtain ⟨r10_9, r11_9, r12_9⟩ := zac R1.out
  have R2 := Lib.hid r
  clear r hb
  clear rb0_9 rb1_9 rb2_9
  obtain ⟨rb0_9, rb1_9, rb2_9⟩ := zac RB.out
  clear r10_9 r11_9 r12_9
  obtain ⟨r10_9, r11_9, r12_9⟩ := zac R1.out
  obtain ⟨r20_9, r21_9, r22_9⟩ := zac R2.out
  go_wp2_with fail
  clear hxw9
  refine (same_r D1.out D2.out).mono ?_
  rw [decide_eq_true rfl]
  rintro e w10 ⟨rfl, hb⟩
  replace BB := Lib.hid (zaa BB.out hb)
  replace VA := Lib.hid (IsV.stb.next VA.out hb)
  replace VB := Lib.hid (IsV.stb.next VB.out hb)
  replace XR := Lib.hid (IsR.stb.next XR.out hb)
  replace RB := Lib.hid (RB.out.next hb)
  replace OA := Lib.hid (IsV.stb.next OA.out hb)
  replace OB := Lib.hid (IsV.stb.next OB.out hb)
  replace D1 := Lib.hid (IsR.stb.next D1.out hb)
  replace R1 := Lib.hid (R1.out.next hb)
  replace D2 := Lib.hid (IsR.stb.next D2.out hb)
  replace R2 := Lib.hid (R2.out.next hb)
  clear rb0_9 rb1_9 rb2_9
  obtain ⟨rb0_10, rb1_10, rb2_10⟩ := zac RB.out
  clear r10_9 r11_9 r12_9
  obtain ⟨r10_10, r11_10, r12_10⟩ := zac R1.out
  clear r20_9 r21_9 r22_9
  obtain ⟨r20_10, r21_10, r22_10⟩ := zac R2.out
  clear hb
  go_wp2_with fail
  refine (zex OA.out (Bru.next HB.out BB.out)).mono ?_
  rw [← HY.out]
  rintro e w11 ⟨rfl, hb⟩
  replace BB := Lib.hid (zaa BB.out hb)
  replace VA := Lib.hid (IsV.stb.next VA.out hb)
  replace VB := Lib.hid (IsV.stb.next VB.out hb)
  replace XR := Lib.hid (IsR.stb.next XR.out hb)
  replace RB := Lib.hid (RB.out.next hb)
  replace OA := Lib.hid (IsV.stb.next OA.out hb)
  replace OB := Lib.hid (IsV.stb.next OB.out hb)
  replace D1 := Lib.hid (IsR.stb.next D1.out hb)
  replace R1 := Lib.hid (R1.out.next hb)
  replace D2 := Lib.hid (IsR.stb.next D2.out hb)
  replace R2 := Lib.hid (R2.out.next hb)
  clear rb0_10 rb1_10 rb2_10
  obtain ⟨rb0_11, rb1_11, rb2_11⟩ := zac RB.out
  clear r10_10 r11_10 r12_10
  obtain ⟨r10_11, r11_11, r12_11⟩ := zac R1.out
  clear r20_10 r21_10 r22_10
  obtain ⟨r20_11, r21_11, r22_11⟩ := zac R2.out
  clear hb
  go_wp2_with fail
  refine (rvcheck_l VA.out).mono ?_
  rw [← HY.out]
  rintro e w12 ⟨rfl, hb⟩
  replace BB := Lib.hid (zaa BB.out hb)
  replace VA := Lib.hid (IsV.stb.next VA.out hb)
  replace VB := Lib.hid (IsV.stb.next VB.out hb)
  replace XR := Lib.hid (IsR.stb.next XR.out hb)
  replace RB := Lib.hid (RB.out.next hb)
  replace OA := Lib.hid (IsV.stb.next OA.out hb)
  replace OB := Lib.hid (IsV.stb.next OB.out hb)
  replace D1 := Lib.hid (IsR.stb.next D1.out hb)
  replace R1 := Lib.hid (R1.out.next hb)
  replace D2 := Lib.hid (IsR.stb.next D2.out hb)
  replace R2 := Lib.hid (R2.out.next hb)
  clear rb0_11 rb1_11 rb2_11
  obtain ⟨rb0_12, rb1_12, rb2_12⟩ := zac RB.out
  clear r10_11 r11_11 r12_11
  obtain ⟨r10_12, r11_12, r12_12⟩ := zac R1.out
  clear r20_11 r21_11 r22_11
  obtain ⟨r20_12, r21_12, r22_12⟩ := zac R2.out
  clear hb
  clear R1 R2 D1 D2 r10_12 r11_12 r12_12 r20_12 r21_12 r22_12
  go_wp2_with fail
  refine (C3.out _ _ _ BB.out OA.out OB.out).mono ?_
  rintro e w13 ⟨⟨xD3, rfl, h⟩, hb⟩
  replace BB := Lib.hid (zaa BB.out hb)
  replace VA := Lib.hid (IsV.stb.next VA.out hb)
  replace VB := Lib.hid (IsV.stb.next VB.out hb)
  replace XR := Lib.hid (IsR.stb.next XR.out hb)
  replace RB := Lib.hid (RB.out.next hb)
  replace OA := Lib.hid (IsV.stb.next OA.out hb)
  replace OB := Lib.hid (IsV.stb.next OB.out hb)
  clear rb0_12 rb1_12 rb2_12
  obtain ⟨rb0_13, rb1_13, rb2_13⟩ := zac RB.out
  have D3 := Lib.hid h
  clear h hb
  go_wp2_with fail
  refine (C4.out _ _ _ BB.out VA.out VB.out).mono ?_
  rintro e w14 ⟨⟨xD4, rfl, h⟩, hb⟩
  replace BB := Lib.hid (zaa BB.out hb)
  replace VA := Lib.hid (IsV.stb.next VA.out hb)
  replace VB := Lib.hid (IsV.stb.next VB.out hb)
  replace XR := Lib.hid (IsR.stb.next XR.out hb)
  replace RB := Lib.hid (RB.out.next hb)
  replace OA := Lib.hid (IsV.stb.next OA.out hb)
  replace OB := Lib.hid (IsV.stb.next OB.out hb)
  replace D3 := Lib.hid (IsV.stb.next D3.out hb)
  clear rb0_13 rb1_13 rb2_13
  obtain ⟨rb0_14, rb1_14, rb2_14⟩ := zac RB.out
  have D4 := Lib.hid h
  clear h hb
  go_wp2_with fail
  refine (same_v D3.out D4.out).mono ?_
  rw [decide_eq_true rfl]
  rintro e w15 ⟨rfl, hb⟩
  replace BB := Lib.hid (zaa BB.out hb)
  replace VA := Lib.hid (IsV.stb.next VA.out hb)
  replace VB := Lib.hid (IsV.stb.next VB.out hb)
  replace XR := Lib.hid (IsR.stb.next XR.out hb)
  replace RB := Lib.hid (RB.out.next hb)
  replace OA := Lib.hid (IsV.stb.next OA.out hb)
  replace OB := Lib.hid (IsV.stb.next OB.out hb)
  replace D3 := Lib.hid (IsV.stb.next D3.out hb)
  replace D4 := Lib.hid (IsV.stb.next D4.out hb)
  clear rb0_14 rb1_14 rb2_14
  obtain ⟨rb0_15, rb1_15, rb2_15⟩ := zac RB.out
  clear hb
  go_wp2_with fail
  refine (C5.out _ _ _ BB.out OA.out XR.out).mono ?_
  rintro e w16 ⟨⟨xD5, rfl, h⟩, hb⟩
  replace BB := Lib.hid (zaa BB.out hb)
  replace VA := Lib.hid (IsV.stb.next VA.out hb)
  replace VB := Lib.hid (IsV.stb.next VB.out hb)
  replace XR := Lib.hid (IsR.stb.next XR.out hb)
  replace RB := Lib.hid (RB.out.next hb)
  replace OA := Lib.hid (IsV.stb.next OA.out hb)
  replace OB := Lib.hid (IsV.stb.next OB.out hb)
  replace D3 := Lib.hid (IsV.stb.next D3.out hb)
  replace D4 := Lib.hid (IsV.stb.next D4.out hb)
  clear rb0_15 rb1_15 rb2_15
  obtain ⟨rb0_16, rb1_16, rb2_16⟩ := zac RB.out
  have D5 := Lib.hid h
  clear h hb
  go_wp2_with fail
  refine (C6.out _ _ _ BB.out VA.out XR.out).mono ?_
  rintro e w17 ⟨⟨xD6, rfl, h⟩, hb⟩
  replace BB := Lib.hid (zaa BB.out hb)
  replace VA := Lib.hid (IsV.stb.next VA.out hb)
  replace VB := Lib.hid (IsV.stb.next VB.out hb)
  replace XR := Lib.hid (IsR.stb.next XR.out hb)
  replace RB := Lib.hid (RB.out.next hb)
  replace OA := Lib.hid (IsV.stb.next OA.out hb)
  replace OB := Lib.hid (IsV.stb.next OB.out hb)
  replace D3 := Lib.hid (IsV.stb.next D3.out hb)
  replace D4 := Lib.hid (IsV.stb.next D4.out hb)
  replace D5 := Lib.hid (IsV.stb.next D5.out hb)
  clear rb0_16 rb1_16 rb2_16
  obtain ⟨rb0_17, rb1_17, rb2_17⟩ := zac RB.out
  have D6 := Lib.hid h
  clear h hb
  go_wp2_with fail
  refine (same_v D5.out D6.out).mono ?_
  rw [decide_eq_true rfl]
  rintro e w18 ⟨rfl, hb⟩
  replace BB := Lib.hid (zaa BB.out hb)
  replace VA := Lib.hid (IsV.stb.next VA.out hb)
  replace VB := Lib.hid (IsV.stb.next VB.out hb)
  replace XR := Lib.hid (IsR.stb.next XR.out hb)
  replace RB := Lib.hid (RB.out.next hb)
  replace OA := Lib.hid (IsV.stb.next OA.out hb)
  replace OB := Lib.hid (IsV.stb.next OB.out hb)
  replace D3 := Lib.hid (IsV.stb.next D3.out hb)
  replace D4 := Lib.hid (IsV.stb.next D4.out hb)
  replace D5 := Lib.hid (IsV.stb.next D5.out hb)
  replace D6 := Lib.hid (IsV.stb.next D6.out hb)
  clear rb0_17 rb1_17 rb2_17
  obtain ⟨rb0_18, rb1_18, rb2_18⟩ := zac RB.out
  clear hb
  go_wp2_with fail
  refine (same_v OA.out VA.out).mono ?_
  rw [decide_eq_true rfl]
  rintro e w19 ⟨rfl, hb⟩
  replace BB := Lib.hid (zaa BB.out hb)
  replace VA := Lib.hid (IsV.stb.next VA.out hb)
  replace VB := Lib.hid (IsV.stb.next VB.out hb)
  replace XR := Lib.hid (IsR.stb.next XR.out hb)
  replace RB := Lib.hid (RB.out.next hb)
  replace OA := Lib.hid (IsV.stb.next OA.out hb)
  replace OB := Lib.hid (IsV.stb.next OB.out hb)
  replace D3 := Lib.hid (IsV.stb.next D3.out hb)
  replace D4 := Lib.hid (IsV.stb.next D4.out hb)
  replace D5 := Lib.hid (IsV.stb.next D5.out hb)
  replace D6 := Lib.hid (IsV.stb.next D6.out hb)
  clear rb0_18 rb1_18 rb2_18
  obtain ⟨rb0_19, rb1_19, rb2_19⟩ := zac RB.out
  clear hb
  go_wp2_with fail
  refine (same_v OB.out VB.out).mono ?_
  rw [decide_eq_true rfl]
  rintro e w20 ⟨rfl, hb⟩
  replace BB := Lib.hid (zaa BB.out hb)
  replace VA := Lib.hid (IsV.stb.next VA.out hb)
  replace VB := Lib.hid (IsV.stb.next VB.out hb)
  replace XR := Lib.hid (IsR.stb.next XR.out hb)
  replace RB := Lib.hid (RB.out.next hb)
  replace OA := Lib.hid (IsV.stb.next OA.out hb)
  replace OB := Lib.hid (IsV.stb.next OB.out hb)
  replace D3 := Lib.hid (IsV.stb.next D3.out hb)
  replace D4 := Lib.hid (IsV.stb.next D4.out hb)
  replace D5 := Lib.hid (IsV.stb.next D5.out hb)
  replace D6 := Lib.hid (IsV.stb.next D6.out hb)
  clear rb0_19 rb1_19 rb2_19
  obtain ⟨rb0_20, rb1_20, rb2_20⟩ := zac RB.out
  clear hb
  go_wp2_with fail
  refine (awake3_l (Bru.next HB.out BB.out)).mono ?_
  rintro e wz ⟨rfl, hb⟩
  go_wp2_with fail
  go_ret
  exact ⟨rfl, zaa BB.out hb⟩
theorem sz3 {l : List Rat} (h : ShortV (rawV l)) : ∀ q ∈ l, Sz q 3 := fun q hq => h (raw q) (List.mem_map.2 ⟨q, hq, rfl⟩)
theorem addQ_sz {a b : List Rat} (ha : ∀ q ∈ a, Sz q 3) (hb : ∀ q ∈ b, Sz q 3) : ∀ q ∈ addQ a b, Sz q 1024 := by
  intro q hq
  obtain ⟨i, hi, rfl⟩ := List.getElem_of_mem hq
  unfold addQ at hi ⊢
  rw [List.getElem_zipWith]
  exact ((ha _ (List.getElem_mem _)).add (hb _ (List.getElem_mem _))).le (by omega)
theorem scaleQ_sz {a : List Rat} {y : Rat} (ha : ∀ q ∈ a, Sz q 3) (hy : Sz y 3) : ∀ q ∈ zcs a y, Sz q 1024 := by
  intro q hq
  obtain ⟨x, hx, rfl⟩ := List.mem_map.1 hq
  exact ((ha x hx).mul hy).le (by omega)
theorem bothE_ok {a b : List Raw} (h : zcp a b = 0) : chkV a = 0 ∧ chkV b = 0 ∧ a.length = b.length := by
  unfold zcp at h
  split at h
  · rename_i h1; exact absurd h h1
  · rename_i h1
    split at h
    · rename_i h2; exact absurd h h2
    · rename_i h2
      split at h
      · cases h
      · rename_i h3; exact ⟨Decidable.not_not.1 h1, Decidable.not_not.1 h2, Decidable.not_not.1 h3⟩
theorem law_vsums {w : World} {va vb vx : Value} {a b : List Raw} {r : Raw} (ha : IsV w (Old w) va a) (hb : IsV w (Old w) vb b) (hx : IsR w (Old w) vx r) (hB : Bru w) :
    Calls Tryz.prog 6 #[va, vb, vx] w fun en w' => en = .returned (.bool true) ∧ Below w.heap.size w w' := by
  have toB : ∀ W, Below w.heap.size w W → Bru W := fun W h => Bru.next hB h
  by_cases h0 : zcp a b = 0
  · obtain ⟨ea, eb, el⟩ := bothE_ok h0
    obtain ⟨la, qa, rfl, sa⟩ := chkV_ok ea
    obtain ⟨lb, qb, rfl, sb⟩ := chkV_ok eb
    have hl : qb.length = qa.length := by have := el; simp at this; exact this.symm
    have hM : qa.length ≤ 40 := by simpa using la
    by_cases hs : zdx (qa.map raw) r = 0
    · obtain ⟨q, rfl⟩ := chkQ_ok (zfk hs).2
      refine zen (g := gapR (dotQ qa qb)) (e1 := gapE (dotQ qa qb)) (l := rawV (addQ qa qb)) (e2 := 0) (m := rawV (zcs qa q)) (e3 := 0) ha hb hx hB fun h1 h2 h3 => ?_
      have t1 := sz3 (l := qa) h1
      have t2 := sz3 (l := qb) h2
      have t3 : Sz q 3 := h3 (raw q) (by simp)
      refine ⟨fun W v u hW hv hu => ?_, fun W v u hW hv hu => ?_, fun W v u hW hv hu => ?_, fun W v u hW hv hu => ?_, fun W v u hW hv hu => ?_, fun W v u hW hv hu => ?_⟩
      · exact vDot_good hv hu (toB W hW) h0 rfl hl hM sa sb rfl
      · exact rDot_good hv hu h0 rfl hl hM sa sb rfl
      · exact vAdd_good hv hu (toB W hW) h0 rfl hl hM sa sb (addQ_sz t1 t2)
      · exact rAdd_good hv hu h0 rfl hl hM sa sb (addQ_sz t1 t2)
      · exact vScale_good hv hu (toB W hW) hs rfl hM sa (t3.le (by omega)) (scaleQ_sz t1 t3)
      · exact rScale_good hv hu hs rfl hM sa (t3.le (by omega)) (scaleQ_sz t1 t3)
    · refine zen (g := gapR (dotQ qa qb)) (e1 := gapE (dotQ qa qb)) (l := rawV (addQ qa qb)) (e2 := 0) (m := []) (e3 := zdx (qa.map raw) r) ha hb hx hB fun h1 h2 h3 => ?_
      have t1 := sz3 (l := qa) h1
      have t2 := sz3 (l := qb) h2
      refine ⟨fun W v u hW hv hu => ?_, fun W v u hW hv hu => ?_, fun W v u hW hv hu => ?_, fun W v u hW hv hu => ?_, fun W v u hW hv hu => ?_, fun W v u hW hv hu => ?_⟩
      · exact vDot_good hv hu (toB W hW) h0 rfl hl hM sa sb rfl
      · exact rDot_good hv hu h0 rfl hl hM sa sb rfl
      · exact vAdd_good hv hu (toB W hW) h0 rfl hl hM sa sb (addQ_sz t1 t2)
      · exact rAdd_good hv hu h0 rfl hl hM sa sb (addQ_sz t1 t2)
      · exact (vScale_bad hv hu (toB W hW) hs).mono fun en w' ⟨k1, k2⟩ => ⟨⟨_, k1, isV_nil⟩, k2⟩
      · exact (rScale_bad hv hu hs).mono fun en w' ⟨k1, k2⟩ => ⟨⟨_, k1, isV_nil⟩, k2⟩
  · by_cases hs : zdx a r = 0
    · obtain ⟨ea, er⟩ := zfk hs
      obtain ⟨la, qa, rfl, sa⟩ := chkV_ok ea
      obtain ⟨q, rfl⟩ := chkQ_ok er
      have hM : qa.length ≤ 40 := by simpa using la
      refine zen (g := nilRaw) (e1 := zcp (qa.map raw) b) (l := []) (e2 := zcp (qa.map raw) b) (m := rawV (zcs qa q)) (e3 := 0) ha hb hx hB fun h1 h2 h3 => ?_
      have t1 := sz3 (l := qa) h1
      have t3 : Sz q 3 := h3 (raw q) (by simp)
      refine ⟨fun W v u hW hv hu => ?_, fun W v u hW hv hu => ?_, fun W v u hW hv hu => ?_, fun W v u hW hv hu => ?_, fun W v u hW hv hu => ?_, fun W v u hW hv hu => ?_⟩
      · exact (vDot_bad hv hu (toB W hW) h0).mono fun en w' ⟨k1, k2⟩ => ⟨⟨_, k1, isR_nil⟩, k2⟩
      · exact (rDot_bad hv hu h0).mono fun en w' ⟨k1, k2⟩ => ⟨⟨_, k1, isR_nil⟩, k2⟩
      · exact (vAdd_bad hv hu (toB W hW) h0).mono fun en w' ⟨k1, k2⟩ => ⟨⟨_, k1, isV_nil⟩, k2⟩
      · exact (rAdd_bad hv hu h0).mono fun en w' ⟨k1, k2⟩ => ⟨⟨_, k1, isV_nil⟩, k2⟩
      · exact vScale_good hv hu (toB W hW) hs rfl hM sa (t3.le (by omega)) (scaleQ_sz t1 t3)
      · exact rScale_good hv hu hs rfl hM sa (t3.le (by omega)) (scaleQ_sz t1 t3)
    · refine zen (g := nilRaw) (e1 := zcp a b) (l := []) (e2 := zcp a b) (m := []) (e3 := zdx a r) ha hb hx hB fun h1 h2 h3 => ?_
      refine ⟨fun W v u hW hv hu => ?_, fun W v u hW hv hu => ?_, fun W v u hW hv hu => ?_, fun W v u hW hv hu => ?_, fun W v u hW hv hu => ?_, fun W v u hW hv hu => ?_⟩
      · exact (vDot_bad hv hu (toB W hW) h0).mono fun en w' ⟨k1, k2⟩ => ⟨⟨_, k1, isR_nil⟩, k2⟩
      · exact (rDot_bad hv hu h0).mono fun en w' ⟨k1, k2⟩ => ⟨⟨_, k1, isR_nil⟩, k2⟩
      · exact (vAdd_bad hv hu (toB W hW) h0).mono fun en w' ⟨k1, k2⟩ => ⟨⟨_, k1, isV_nil⟩, k2⟩
      · exact (rAdd_bad hv hu h0).mono fun en w' ⟨k1, k2⟩ => ⟨⟨_, k1, isV_nil⟩, k2⟩
      · exact (vScale_bad hv hu (toB W hW) hs).mono fun en w' ⟨k1, k2⟩ => ⟨⟨_, k1, isV_nil⟩, k2⟩
      · exact (rScale_bad hv hu hs).mono fun en w' ⟨k1, k2⟩ => ⟨⟨_, k1, isV_nil⟩, k2⟩
end Go.Proofs.YtblpaocignlpkaaGreatDoor
