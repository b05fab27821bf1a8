/-
  Contracts of the verifier's kit: whether two lists, matrices, programs are equal.
-/
import Derived.Test.YtblpaocignlpkaaGreatDoorCore12
import Derived.Deep.RegionLaw
namespace Go.Proofs.YtblpaocignlpkaaGreatDoor
open Go.RowKit
set_option linter.unusedVariables false
theorem list_eq {α : Type} {a b : List α} (hl : a.length = b.length) (h : ∀ j, j < a.length → a[j]? = b[j]?) : a = b := by
  apply List.ext_getElem?
  intro j
  rcases Nat.lt_or_ge j a.length with h1 | h1
  · exact h j h1
  · rw [List.getElem?_eq_none h1, List.getElem?_eq_none (by omega)]
set_option maxRecDepth 100000 in
set_option maxHeartbeats 2000000 in
theorem same_v {w : World} {va vb : Value} {a b : List (Raw)} (ha : IsV w (Old w) va a) (hb : IsV w (Old w) vb b) :
    Calls Tryz.prog 16 #[va, vb] w fun e w' => e = .returned (.bool (decide (a = b))) ∧ Below w.heap.size w w' := by
  have HA := Lib.hid ha
  have HB := Lib.hid hb
  obtain ⟨A, cA, rfl, mA⟩ := zau ha
  obtain ⟨B, cB, rfl, mB⟩ := zau hb
  clear ha hb
  obtain ⟨la, hla⟩ : ∃ n, n = a.length := ⟨_, rfl⟩
  obtain ⟨lb, hlb⟩ : ∃ n, n = b.length := ⟨_, rfl⟩
  rw [← hla] at HA mA ⊢
  rw [← hlb] at HB mB ⊢
  have Hla := Lib.hid hla
  have Hlb := Lib.hid hlb
  clear hla hlb
  by_cases hl : la = lb
  case neg =>
    have b1 : ((la : Int) != (lb : Int)) = true := bne_iff_ne.2 (by omega)
    have Hr : Hid (decide (a = b) = false) := decide_eq_false (fun e => hl (by rw [Hla.out, Hlb.out, e]))
    clear hl
    go_enter Tryz.func16, Tryz.ntmps16
    go_wp2_with fail
    go_ret
    exact ⟨by show Ending.returned (.bool _) = _; rw [Hr.out], Below.refl _ _⟩
  subst hl
  have b1 : ((la : Int) != (la : Int)) = false := by simp
  go_enter Tryz.func16, Tryz.ntmps16
  go_wp2_with fail
  go_loopw [5] (fun i wr => ∃ k : Nat, k ≤ la ∧ i = .int .i64 (k : Int) ∧ Below w.heap.size w wr ∧ Hid (∀ j, j < k → a[j]? = b[j]?)) (fun i _ => la - (intOf i).toNat)
  case atStart => exact ⟨0, Nat.zero_le _, rfl, Below.refl _ _, fun j hj => by omega⟩
  case round =>
    obtain ⟨k, hk, rfl, hbw, hrel⟩ := hrel
    have Hbw := Lib.hid hbw
    have Hrel := Lib.hid hrel.out
    clear hrel
    rcases Nat.lt_or_ge k la with hlt | hge
    · obtain ⟨x, hx⟩ := zcs (l := a) (j := k) (by rw [← Hla.out]; exact hlt)
      obtain ⟨y, hy⟩ := zcs (l := b) (j := k) (by rw [← Hlb.out]; exact hlt)
      obtain ⟨b1', o1, P, kP, Q, kQ, rfl, hS1, helx, c0, c1, c2⟩ := zdi (IsV.stb.to HA.out (zag hbw)) hx
      obtain ⟨b2', o2, P', kP', Q', kQ', rfl, hS2, hely, d0, d1, d2⟩ := zdi (IsV.stb.to HB.out (zag hbw)) hy
      have Hx := Lib.hid hx
      have Hy := Lib.hid hy
      have QX := Lib.hid helx
      have QY := Lib.hid hely
      have cr := zcm
      have hk0 : (0 : Int) ≤ (k : Int) := by omega
      have hk1 : (k : Int) < (la : Int) := by omega
      obtain ⟨q, hq⟩ : ∃ q, q = decide (x = y) := ⟨_, rfl⟩
      have Hq := Lib.hid hq
      clear hx hy helx hely hbw hq
      cases q with
      | false =>
        go_wp2_with fail
        have HS : Hid (∀ W : World, Below wr.heap.size wr W → W.cell? ⟨b1', o1 + k * 3, none⟩ = some (.bool x.neg) ∧ W.cell? ⟨b1', o1 + k * 3 + 1, none⟩ = some (.slice P x.num.length kP) ∧ W.cell? ⟨b1', o1 + k * 3 + 2, none⟩ = some (.slice Q x.den.length kQ) ∧ W.cell? ⟨b2', o2 + k * 3, none⟩ = some (.bool y.neg) ∧ W.cell? ⟨b2', o2 + k * 3 + 1, none⟩ = some (.slice P' y.num.length kP') ∧ W.cell? ⟨b2', o2 + k * 3 + 2, none⟩ = some (.slice Q' y.den.length kQ')) := fun W hW => ⟨zab hW c0, zab hW c1, zab hW c2, zab hW d0, zab hW d1, zab hW d2⟩
        have D3 : Hid (∀ W : World, Below wr.heap.size wr W → Calls Tryz.prog 21 #[.agg #[.bool x.neg, .slice P x.num.length kP, .slice Q x.den.length kQ], .agg #[.bool y.neg, .slice P' y.num.length kP', .slice Q' y.den.length kQ']] W (fun e w' => e = .returned (.bool false) ∧ Below W.heap.size W w')) := fun W hW => by rw [Hq.out]; exact same_r (IsR.stb.next QX.out hW) (IsR.stb.next QY.out hW)
        go_region_held3 (fun w' => w'.cell? ⟨b1', o1 + k * 3, none⟩ = some (.bool x.neg) ∧ w'.cell? ⟨b1', o1 + k * 3 + 1, none⟩ = some (.slice P x.num.length kP) ∧ w'.cell? ⟨b1', o1 + k * 3 + 2, none⟩ = some (.slice Q x.den.length kQ) ∧ w'.cell? ⟨b2', o2 + k * 3, none⟩ = some (.bool y.neg) ∧ w'.cell? ⟨b2', o2 + k * 3 + 1, none⟩ = some (.slice P' y.num.length kP') ∧ w'.cell? ⟨b2', o2 + k * 3 + 2, none⟩ = some (.slice Q' y.den.length kQ'))
          (exact HS.out _ (by (repeat (first | exact Below.refl _ _ | assumption | refine zae ?_ _ | refine zah ?_ | refine zaf ?_ ?_ _ _ _ | refine zaj ?_ (by omega) | refine zaa ?_ (by assumption))); (first | done | fail)))
          (first
            | (go_at_call 21; (with_reducible refine Calls.mono (D3.out _ (by (repeat (first | exact Below.refl _ _ | assumption | refine zae ?_ _ | refine zah ?_ | refine zaf ?_ ?_ _ _ _ | refine zaj ?_ (by omega) | refine zaa ?_ (by assumption))); (first | done | fail))) ?_); rintro e w3 ⟨rfl, hb3⟩))
        have Hb3 := Lib.hid (zaa Hbw.out (show Below wr.heap.size wr w3 from (by (repeat (first | exact Below.refl _ _ | assumption | refine zae ?_ _ | refine zah ?_ | refine zaf ?_ ?_ _ _ _ | refine zaj ?_ (by omega) | refine zaa ?_ (by assumption))); (first | done | fail))))
        clear hb3 HS D3
        go_wp2_with fail
        have Hr : Hid (decide (a = b) = false) := decide_eq_false (fun e => by have h1 := Hx.out; rw [e, Hy.out] at h1; cases h1; have h2 := Hq.out; simp at h2)
        go_ret
        exact ⟨by show Ending.returned (.bool _) = _; rw [Hr.out], Hb3.out⟩
      | true =>
        go_wp2_with fail
        have HS : Hid (∀ W : World, Below wr.heap.size wr W → W.cell? ⟨b1', o1 + k * 3, none⟩ = some (.bool x.neg) ∧ W.cell? ⟨b1', o1 + k * 3 + 1, none⟩ = some (.slice P x.num.length kP) ∧ W.cell? ⟨b1', o1 + k * 3 + 2, none⟩ = some (.slice Q x.den.length kQ) ∧ W.cell? ⟨b2', o2 + k * 3, none⟩ = some (.bool y.neg) ∧ W.cell? ⟨b2', o2 + k * 3 + 1, none⟩ = some (.slice P' y.num.length kP') ∧ W.cell? ⟨b2', o2 + k * 3 + 2, none⟩ = some (.slice Q' y.den.length kQ')) := fun W hW => ⟨zab hW c0, zab hW c1, zab hW c2, zab hW d0, zab hW d1, zab hW d2⟩
        have D3 : Hid (∀ W : World, Below wr.heap.size wr W → Calls Tryz.prog 21 #[.agg #[.bool x.neg, .slice P x.num.length kP, .slice Q x.den.length kQ], .agg #[.bool y.neg, .slice P' y.num.length kP', .slice Q' y.den.length kQ']] W (fun e w' => e = .returned (.bool true) ∧ Below W.heap.size W w')) := fun W hW => by rw [Hq.out]; exact same_r (IsR.stb.next QX.out hW) (IsR.stb.next QY.out hW)
        go_region_held3 (fun w' => w'.cell? ⟨b1', o1 + k * 3, none⟩ = some (.bool x.neg) ∧ w'.cell? ⟨b1', o1 + k * 3 + 1, none⟩ = some (.slice P x.num.length kP) ∧ w'.cell? ⟨b1', o1 + k * 3 + 2, none⟩ = some (.slice Q x.den.length kQ) ∧ w'.cell? ⟨b2', o2 + k * 3, none⟩ = some (.bool y.neg) ∧ w'.cell? ⟨b2', o2 + k * 3 + 1, none⟩ = some (.slice P' y.num.length kP') ∧ w'.cell? ⟨b2', o2 + k * 3 + 2, none⟩ = some (.slice Q' y.den.length kQ'))
          (exact HS.out _ (by (repeat (first | exact Below.refl _ _ | assumption | refine zae ?_ _ | refine zah ?_ | refine zaf ?_ ?_ _ _ _ | refine zaj ?_ (by omega) | refine zaa ?_ (by assumption))); (first | done | fail)))
          (first
            | (go_at_call 21; (with_reducible refine Calls.mono (D3.out _ (by (repeat (first | exact Below.refl _ _ | assumption | refine zae ?_ _ | refine zah ?_ | refine zaf ?_ ?_ _ _ _ | refine zaj ?_ (by omega) | refine zaa ?_ (by assumption))); (first | done | fail))) ?_); rintro e w3 ⟨rfl, hb3⟩))
        have Hb3 := Lib.hid (zaa Hbw.out (show Below wr.heap.size wr w3 from (by (repeat (first | exact Below.refl _ _ | assumption | refine zae ?_ _ | refine zah ?_ | refine zaf ?_ ?_ _ _ _ | refine zaj ?_ (by omega) | refine zaa ?_ (by assumption))); (first | done | fail))))
        clear hb3 HS D3
        go_wp2_with fail
        go_roundw
        case rel =>
          refine ⟨k + 1, by omega, by go_num, Hb3.out, fun j hj => ?_⟩
          rcases Nat.lt_or_ge j k with h | h
          · exact Hrel.out j h
          · obtain rfl : j = k := by omega
            rw [Hx.out, Hy.out, of_decide_eq_true Hq.out.symm]
        case measure => simp [intOf]; omega
    · obtain rfl : k = la := by omega
      have Hr : Hid (decide (a = b) = true) := decide_eq_true (list_eq (by rw [← Hla.out, ← Hlb.out]) (fun j hj => Hrel.out j (by rw [Hla.out]; exact hj)))
      clear hbw
      go_wp2_with fail
      go_ret
      exact ⟨by show Ending.returned (.bool _) = _; rw [Hr.out], Hbw.out⟩
set_option maxRecDepth 100000 in
set_option maxHeartbeats 2000000 in
theorem same_m {w : World} {va vb : Value} {a b : List (List Raw)} (ha : IsM w (Old w) va a) (hb : IsM w (Old w) vb b) :
    Calls Tryz.prog 47 #[va, vb] w fun e w' => e = .returned (.bool (decide (a = b))) ∧ Below w.heap.size w w' := by
  have HA := Lib.hid ha
  have HB := Lib.hid hb
  obtain ⟨A, cA, rfl, mA⟩ := zdo ha
  obtain ⟨B, cB, rfl, mB⟩ := zdo hb
  clear ha hb
  obtain ⟨la, hla⟩ : ∃ n, n = a.length := ⟨_, rfl⟩
  obtain ⟨lb, hlb⟩ : ∃ n, n = b.length := ⟨_, rfl⟩
  rw [← hla] at HA mA ⊢
  rw [← hlb] at HB mB ⊢
  have Hla := Lib.hid hla
  have Hlb := Lib.hid hlb
  clear hla hlb
  by_cases hl : la = lb
  case neg =>
    have b1 : ((la : Int) != (lb : Int)) = true := bne_iff_ne.2 (by omega)
    have Hr : Hid (decide (a = b) = false) := decide_eq_false (fun e => hl (by rw [Hla.out, Hlb.out, e]))
    clear hl
    go_enter Tryz.func47, Tryz.ntmps47
    go_wp2_with fail
    go_ret
    exact ⟨by show Ending.returned (.bool _) = _; rw [Hr.out], Below.refl _ _⟩
  subst hl
  have b1 : ((la : Int) != (la : Int)) = false := by simp
  go_enter Tryz.func47, Tryz.ntmps47
  go_wp2_with fail
  go_loopw [5] (fun i wr => ∃ k : Nat, k ≤ la ∧ i = .int .i64 (k : Int) ∧ Below w.heap.size w wr ∧ Hid (∀ j, j < k → a[j]? = b[j]?)) (fun i _ => la - (intOf i).toNat)
  case atStart => exact ⟨0, Nat.zero_le _, rfl, Below.refl _ _, fun j hj => by omega⟩
  case round =>
    obtain ⟨k, hk, rfl, hbw, hrel⟩ := hrel
    have Hbw := Lib.hid hbw
    have Hrel := Lib.hid hrel.out
    clear hrel
    rcases Nat.lt_or_ge k la with hlt | hge
    · obtain ⟨x, hx⟩ := zcs (l := a) (j := k) (by rw [← Hla.out]; exact hlt)
      obtain ⟨y, hy⟩ := zcs (l := b) (j := k) (by rw [← Hlb.out]; exact hlt)
      obtain ⟨b1', o1, P, kP, rfl, hS1, helx, c0⟩ := zdp (IsM.stb.to HA.out (zag hbw)) hx
      obtain ⟨b2', o2, P', kP', rfl, hS2, hely, d0⟩ := zdp (IsM.stb.to HB.out (zag hbw)) hy
      have Hx := Lib.hid hx
      have Hy := Lib.hid hy
      have QX := Lib.hid helx
      have QY := Lib.hid hely
      have cr := zcm
      have hk0 : (0 : Int) ≤ (k : Int) := by omega
      have hk1 : (k : Int) < (la : Int) := by omega
      obtain ⟨q, hq⟩ : ∃ q, q = decide (x = y) := ⟨_, rfl⟩
      have Hq := Lib.hid hq
      clear hx hy helx hely hbw hq
      cases q with
      | false =>
        go_wp2_with fail
        have HS : Hid (∀ W : World, Below wr.heap.size wr W → W.cell? ⟨b1', o1 + k, none⟩ = some (.slice P x.length kP) ∧ W.cell? ⟨b2', o2 + k, none⟩ = some (.slice P' y.length kP')) := fun W hW => ⟨zab hW c0, zab hW d0⟩
        have D3 : Hid (∀ W : World, Below wr.heap.size wr W → Calls Tryz.prog 16 #[.slice P x.length kP, .slice P' y.length kP'] W (fun e w' => e = .returned (.bool false) ∧ Below W.heap.size W w')) := fun W hW => by rw [Hq.out]; exact same_v (IsV.stb.next QX.out hW) (IsV.stb.next QY.out hW)
        go_region_held3 (fun w' => w'.cell? ⟨b1', o1 + k, none⟩ = some (.slice P x.length kP) ∧ w'.cell? ⟨b2', o2 + k, none⟩ = some (.slice P' y.length kP'))
          (exact HS.out _ (by (repeat (first | exact Below.refl _ _ | assumption | refine zae ?_ _ | refine zah ?_ | refine zaf ?_ ?_ _ _ _ | refine zaj ?_ (by omega) | refine zaa ?_ (by assumption))); (first | done | fail)))
          (first
            | (go_at_call 16; (with_reducible refine Calls.mono (D3.out _ (by (repeat (first | exact Below.refl _ _ | assumption | refine zae ?_ _ | refine zah ?_ | refine zaf ?_ ?_ _ _ _ | refine zaj ?_ (by omega) | refine zaa ?_ (by assumption))); (first | done | fail))) ?_); rintro e w3 ⟨rfl, hb3⟩))
        have Hb3 := Lib.hid (zaa Hbw.out (show Below wr.heap.size wr w3 from (by (repeat (first | exact Below.refl _ _ | assumption | refine zae ?_ _ | refine zah ?_ | refine zaf ?_ ?_ _ _ _ | refine zaj ?_ (by omega) | refine zaa ?_ (by assumption))); (first | done | fail))))
        clear hb3 HS D3
        go_wp2_with fail
        have Hr : Hid (decide (a = b) = false) := decide_eq_false (fun e => by have h1 := Hx.out; rw [e, Hy.out] at h1; cases h1; have h2 := Hq.out; simp at h2)
        go_ret
        exact ⟨by show Ending.returned (.bool _) = _; rw [Hr.out], Hb3.out⟩
      | true =>
        go_wp2_with fail
        have HS : Hid (∀ W : World, Below wr.heap.size wr W → W.cell? ⟨b1', o1 + k, none⟩ = some (.slice P x.length kP) ∧ W.cell? ⟨b2', o2 + k, none⟩ = some (.slice P' y.length kP')) := fun W hW => ⟨zab hW c0, zab hW d0⟩
        have D3 : Hid (∀ W : World, Below wr.heap.size wr W → Calls Tryz.prog 16 #[.slice P x.length kP, .slice P' y.length kP'] W (fun e w' => e = .returned (.bool true) ∧ Below W.heap.size W w')) := fun W hW => by rw [Hq.out]; exact same_v (IsV.stb.next QX.out hW) (IsV.stb.next QY.out hW)
        go_region_held3 (fun w' => w'.cell? ⟨b1', o1 + k, none⟩ = some (.slice P x.length kP) ∧ w'.cell? ⟨b2', o2 + k, none⟩ = some (.slice P' y.length kP'))
          (exact HS.out _ (by (repeat (first | exact Below.refl _ _ | assumption | refine zae ?_ _ | refine zah ?_ | refine zaf ?_ ?_ _ _ _ | refine zaj ?_ (by omega) | refine zaa ?_ (by assumption))); (first | done | fail)))
          (first
            | (go_at_call 16; (with_reducible refine Calls.mono (D3.out _ (by (repeat (first | exact Below.refl _ _ | assumption | refine zae ?_ _ | refine zah ?_ | refine zaf ?_ ?_ _ _ _ | refine zaj ?_ (by omega) | refine zaa ?_ (by assumption))); (first | done | fail))) ?_); rintro e w3 ⟨rfl, hb3⟩))
        have Hb3 := Lib.hid (zaa Hbw.out (show Below wr.heap.size wr w3 from (by (repeat (first | exact Below.refl _ _ | assumption | refine zae ?_ _ | refine zah ?_ | refine zaf ?_ ?_ _ _ _ | refine zaj ?_ (by omega) | refine zaa ?_ (by assumption))); (first | done | fail))))
        clear hb3 HS D3
        go_wp2_with fail
        go_roundw
        case rel =>
          refine ⟨k + 1, by omega, by go_num, Hb3.out, fun j hj => ?_⟩
          rcases Nat.lt_or_ge j k with h | h
          · exact Hrel.out j h
          · obtain rfl : j = k := by omega
            rw [Hx.out, Hy.out, of_decide_eq_true Hq.out.symm]
        case measure => simp [intOf]; omega
    · obtain rfl : k = la := by omega
      have Hr : Hid (decide (a = b) = true) := decide_eq_true (list_eq (by rw [← Hla.out, ← Hlb.out]) (fun j hj => Hrel.out j (by rw [Hla.out]; exact hj)))
      clear hbw
      go_wp2_with fail
      go_ret
      exact ⟨by show Ending.returned (.bool _) = _; rw [Hr.out], Hbw.out⟩
instance : DecidableEq Prog := fun a b => if h : a.A = b.A ∧ a.B = b.B ∧ a.C = b.C then isTrue (by cases a; cases b; simp only at h; obtain ⟨rfl, rfl, rfl⟩ := h; rfl) else isFalse (fun e => h (by rw [e]; exact ⟨rfl, rfl, rfl⟩))
theorem sameP_eq (a b : Prog) : (decide (a.A = b.A) && decide (a.B = b.B) && decide (a.C = b.C)) = decide (a = b) := by
  rw [Bool.eq_iff_iff, Bool.and_eq_true, Bool.and_eq_true, decide_eq_true_eq, decide_eq_true_eq, decide_eq_true_eq, decide_eq_true_eq]
  cases a; cases b
  simp [and_assoc]
set_option maxRecDepth 100000 in
set_option maxHeartbeats 2000000 in
theorem same_p {w : World} {va vb : Value} {a b : Prog} (ha : IsP w (Old w) va a) (hb : IsP w (Old w) vb b) :
    Calls Tryz.prog 15 #[va, vb] w fun e w' => e = .returned (.bool (decide (a = b))) ∧ Below w.heap.size w w' := by
  rw [← sameP_eq]
  obtain ⟨A1, a1, A2, a2, A3, a3, rfl, hA1, hA2, hA3⟩ := ha
  obtain ⟨B1, b1, B2, b2, B3, b3, rfl, hB1, hB2, hB3⟩ := hb
  have HA1 := Lib.hid hA1
  have HA2 := Lib.hid hA2
  have HA3 := Lib.hid hA3
  have HB1 := Lib.hid hB1
  have HB2 := Lib.hid hB2
  have HB3 := Lib.hid hB3
  obtain ⟨q1, hq1⟩ : ∃ x, x = decide (a.A = b.A) := ⟨_, rfl⟩
  obtain ⟨q2, hq2⟩ : ∃ x, x = decide (a.B = b.B) := ⟨_, rfl⟩
  obtain ⟨q3, hq3⟩ : ∃ x, x = decide (a.C = b.C) := ⟨_, rfl⟩
  rw [← hq1, ← hq2, ← hq3]
  have Hq1 := Lib.hid hq1
  have Hq2 := Lib.hid hq2
  have Hq3 := Lib.hid hq3
  clear hq1 hq2 hq3 hA1 hA2 hA3 hB1 hB2 hB3
  obtain ⟨w0, hw0, hb0, rA, rB, Hz⟩ := zcl w #[.slice A1 a.A.length a1, .slice A2 a.B.length a2, .slice A3 a.C.length a3] #[.slice B1 b.A.length b1, .slice B2 b.B.length b2, .slice B3 b.C.length b3] 27 27
  have HZ0 := Lib.hid hb0
  obtain ⟨x0, x1, x2⟩ := zad rA
  obtain ⟨y0, y1, y2⟩ := zad rB
  clear hb0 rA rB
  cases q1 with
  | false =>
    go_enter Tryz.func15, Tryz.ntmps15
    go_wp2_with fail
    clear hw0
    refine (same_m (IsM.stb.to HA1.out (zag HZ0.out)) (IsM.stb.to HB1.out (zag HZ0.out))).mono ?_
    rw [← Hq1.out]
    rintro e w1 ⟨rfl, hb⟩
    have HZ1 := Lib.hid (zaa HZ0.out hb)
    replace x0 := zab hb x0
    replace x1 := zab hb x1
    replace x2 := zab hb x2
    replace y0 := zab hb y0
    replace y1 := zab hb y1
    replace y2 := zab hb y2
    clear hb
    go_wp2_with fail
    go_ret
    exact ⟨rfl, HZ1.out⟩
  | true =>
    cases q2 with
    | false =>
      go_enter Tryz.func15, Tryz.ntmps15
      go_wp2_with fail
      clear hw0
      refine (same_m (IsM.stb.to HA1.out (zag HZ0.out)) (IsM.stb.to HB1.out (zag HZ0.out))).mono ?_
      rw [← Hq1.out]
      rintro e w1 ⟨rfl, hb⟩
      have HZ1 := Lib.hid (zaa HZ0.out hb)
      replace x0 := zab hb x0
      replace x1 := zab hb x1
      replace x2 := zab hb x2
      replace y0 := zab hb y0
      replace y1 := zab hb y1
      replace y2 := zab hb y2
      clear hb
      go_wp2_with fail
      refine (same_v (IsV.stb.to HA2.out (zag HZ1.out)) (IsV.stb.to HB2.out (zag HZ1.out))).mono ?_
      rw [← Hq2.out]
      rintro e w2 ⟨rfl, hb⟩
      have HZ2 := Lib.hid (zaa HZ1.out hb)
      replace x0 := zab hb x0
      replace x1 := zab hb x1
      replace x2 := zab hb x2
      replace y0 := zab hb y0
      replace y1 := zab hb y1
      replace y2 := zab hb y2
      clear hb
      go_wp2_with fail
      go_ret
      exact ⟨rfl, HZ2.out⟩
    | true =>
      cases q3 with
      | false =>
        go_enter Tryz.func15, Tryz.ntmps15
        go_wp2_with fail
        clear hw0
        refine (same_m (IsM.stb.to HA1.out (zag HZ0.out)) (IsM.stb.to HB1.out (zag HZ0.out))).mono ?_
        rw [← Hq1.out]
        rintro e w1 ⟨rfl, hb⟩
        have HZ1 := Lib.hid (zaa HZ0.out hb)
        replace x0 := zab hb x0
        replace x1 := zab hb x1
        replace x2 := zab hb x2
        replace y0 := zab hb y0
        replace y1 := zab hb y1
        replace y2 := zab hb y2
        clear hb
        go_wp2_with fail
        refine (same_v (IsV.stb.to HA2.out (zag HZ1.out)) (IsV.stb.to HB2.out (zag HZ1.out))).mono ?_
        rw [← Hq2.out]
        rintro e w2 ⟨rfl, hb⟩
        have HZ2 := Lib.hid (zaa HZ1.out hb)
        replace x0 := zab hb x0
        replace x1 := zab hb x1
        replace x2 := zab hb x2
        replace y0 := zab hb y0
        replace y1 := zab hb y1
        replace y2 := zab hb y2
        clear hb
        go_wp2_with fail
        refine (same_v (IsV.stb.to HA3.out (zag HZ2.out)) (IsV.stb.to HB3.out (zag HZ2.out))).mono ?_
        rw [← Hq3.out]
        rintro e w3 ⟨rfl, hb⟩
        have HZ3 := Lib.hid (zaa HZ2.out hb)
        replace x0 := zab hb x0
        replace x1 := zab hb x1
        replace x2 := zab hb x2
        replace y0 := zab hb y0
        replace y1 := zab hb y1
        replace y2 := zab hb y2
        clear hb
        go_wp2_with fail
        go_ret
        exact ⟨rfl, HZ3.out⟩
      | true =>
        go_enter Tryz.func15, Tryz.ntmps15
        go_wp2_with fail
        clear hw0
        refine (same_m (IsM.stb.to HA1.out (zag HZ0.out)) (IsM.stb.to HB1.out (zag HZ0.out))).mono ?_
        rw [← Hq1.out]
        rintro e w1 ⟨rfl, hb⟩
        have HZ1 := Lib.hid (zaa HZ0.out hb)
        replace x0 := zab hb x0
        replace x1 := zab hb x1
        replace x2 := zab hb x2
        replace y0 := zab hb y0
        replace y1 := zab hb y1
        replace y2 := zab hb y2
        clear hb
        go_wp2_with fail
        refine (same_v (IsV.stb.to HA2.out (zag HZ1.out)) (IsV.stb.to HB2.out (zag HZ1.out))).mono ?_
        rw [← Hq2.out]
        rintro e w2 ⟨rfl, hb⟩
        have HZ2 := Lib.hid (zaa HZ1.out hb)
        replace x0 := zab hb x0
        replace x1 := zab hb x1
        replace x2 := zab hb x2
        replace y0 := zab hb y0
        replace y1 := zab hb y1
        replace y2 := zab hb y2
        clear hb
        go_wp2_with fail
        refine (same_v (IsV.stb.to HA3.out (zag HZ2.out)) (IsV.stb.to HB3.out (zag HZ2.out))).mono ?_
        rw [← Hq3.out]
        rintro e w3 ⟨rfl, hb⟩
        have HZ3 := Lib.hid (zaa HZ2.out hb)
        replace x0 := zab hb x0
        replace x1 := zab hb x1
        replace x2 := zab hb x2
        replace y0 := zab hb y0
        replace y1 := zab hb y1
        replace y2 := zab hb y2
        clear hb
        go_wp2_with fail
        go_ret
        exact ⟨rfl, HZ3.out⟩
theorem dualA_at {q : ProgQ} {j : Nat} (h : j < q.C.length) : (zca q).A[j]? = some (negV (colQ q.A j)) := by
  unfold zca
  simp only
  rw [List.getElem?_map, List.getElem?_range h]
  rfl
theorem rawM_app (m : List (List Rat)) (x : List Rat) : rawM (m ++ [x]) = rawM m ++ [rawV x] := by simp [rawM]
def nilP : Prog := ⟨[], [], []⟩
theorem isP_nil {w : World} {S : Nat → Prop} : IsP w S (.agg #[.slice none 0 0, .slice none 0 0, .slice none 0 0]) nilP := isP_mk (p := nilP) IsS.nil IsS.nil IsS.nil
set_option maxRecDepth 100000 in
set_option maxHeartbeats 1000000 in
theorem of_bad {w : World} {vp : Value} {p : Prog} (hp : IsP w (Old w) vp p) (hB : Bru w) (h0 : chkP p ≠ 0) :
    Calls Tryz.prog 22 #[vp] w fun e w' => e = .returned (.tuple #[.agg #[.slice none 0 0, .slice none 0 0, .slice none 0 0], .int .i64 (chkP p)]) ∧ Below w.heap.size w w' := by
  have HP := Lib.hid hp
  have HB := Lib.hid hB
  obtain ⟨A, cA, B, cB, C, cC, rfl, _, _, _⟩ := hp
  obtain ⟨x, hx⟩ : ∃ x, x = chkP p := ⟨_, rfl⟩
  have Hx := Lib.hid hx
  rw [← hx] at h0 ⊢
  have e0 : (x != 0) = true := bne_iff_ne.2 h0
  clear hx h0 hB
  obtain ⟨w0, hw0, hb0, rP, rZ, Hz⟩ := zcl w #[.slice A p.A.length cA, .slice B p.B.length cB, .slice C p.C.length cC] #[.slice none 0 0, .slice none 0 0, .slice none 0 0] 27 27
  have HB0 := Lib.hid hb0
  have RZ := Lib.hid rZ
  obtain ⟨cP0, cP1, cP2⟩ := zad rP
  clear rP rZ hb0
  go_enter Tryz.func22, Tryz.ntmps22
  go_wp2_with fail
  clear hw0
  refine (zdv HP.out HB.out HB0.out).mono ?_
  rw [← Hx.out]
  rintro e w1 ⟨rfl, hb⟩
  have Hb1 := Lib.hid (zaa HB0.out hb)
  have RZ1 := Lib.hid (RZ.out.next hb)
  obtain ⟨d0, d1, d2⟩ := zad RZ1.out
  obtain ⟨f0, f1, f2⟩ := zax RZ1.out
  clear hb
  go_wp2_with fail
  refine bodyPost_ret (results_prog2 rfl rfl (Row.put3 RZ1.out _ _ _)) rfl ?_
  exact ⟨rfl, zbn Hb1.out (by omega) _ _ _⟩
set_option maxRecDepth 100000 in
set_option maxHeartbeats 4000000 in
theorem of_good {w : World} {vp : Value} {q : ProgQ} (hp : IsP w (Old w) vp (rawP q)) (hB : Bru w) (hg : Good q 1024) :
    Calls Tryz.prog 22 #[vp] w fun e w' => (∃ v, e = .returned (.tuple #[v, .int .i64 0]) ∧ IsP w' (Old w') v (rawP (zca q))) ∧ Below w.heap.size w w' := by
  have HG := Lib.hid hg
  have HP := Lib.hid hp
  have HBr := Lib.hid hB
  have Hx := Lib.hid (chkP_raw hg)
  obtain ⟨A, cA, B, cB, C, cC, rfl, hA, hBv, hC⟩ := hp
  simp only [rawP, zay, zek] at hA hBv hC ⊢
  simp only [rawP, zay, zek] at HP
  obtain ⟨M, hM⟩ : ∃ m, m = q.B.length := ⟨_, rfl⟩
  obtain ⟨n, hn⟩ : ∃ m, m = q.C.length := ⟨_, rfl⟩
  have hM40 : M ≤ 40 := by rw [hM]; exact hg.nB
  have hn40 : n ≤ 40 := by rw [hn]; exact hg.nC
  have HMl := Lib.hid hM
  have Hnl := Lib.hid hn
  rw [hg.rows, ← hM, ← hn] at HP
  rw [hg.rows, ← hM] at hA ⊢
  rw [← hM] at hBv
  rw [← hn] at hC ⊢
  have HA := Lib.hid hA
  have HB := Lib.hid hBv
  have HC := Lib.hid hC
  have Hrow : Hid (∀ row ∈ q.A, row.length = n) := fun row h => (hg.cols row h).trans hn.symm
  clear hg hA hBv hC hM hn hB
  obtain ⟨w0, hw0, hb0, rP, rZ, Hz⟩ := zcl w #[.slice A M cA, .slice B M cB, .slice C n cC] #[.slice none 0 0, .slice none 0 0, .slice none 0 0] 27 27
  have HB0 := Lib.hid hb0
  have CP := Lib.hid (zad rP)
  have RZ := Lib.hid rZ
  obtain ⟨cP0, cP1, cP2⟩ := zad rP
  clear rP rZ hb0
  go_enter Tryz.func22, Tryz.ntmps22
  go_wp2_with fail
  clear hw0
  refine (zdv HP.out HBr.out HB0.out).mono ?_
  rw [show chkP ⟨rawM q.A, rawV q.B, rawV q.C⟩ = 0 from Hx.out]
  rintro e w1 ⟨rfl, hb⟩
  have hz1 := hb.size
  have cP0 := zab hb CP.out.1
  have cP1 := zab hb CP.out.2.1
  have cP2 := zab hb CP.out.2.2
  obtain ⟨wE, hwE, hbE, rE, HzE⟩ := zbm w1 #[.slice none 0 0, .slice none 0 0, .slice none 0 0] 27
  have cP0 := zab hbE cP0
  have cP1 := zab hbE cP1
  have cP2 := zab hbE cP2
  have RE := Lib.hid rE
  have HbE := Lib.hid (zaa hb hbE)
  have gE : w1.heap.size < wE.heap.size := rE.lt
  go_wp2_with fail
  obtain ⟨g, hgg⟩ : ∃ g, g = w1.heap.size := ⟨_, rfl⟩
  have zg : w0.heap.size ≤ g := by rw [hgg]; exact hz1
  rw [← hgg] at RE gE ⊢
  clear rE hbE hwE cP0 cP1 cP2 hgg hz1 hb
  go_loopw [16, 6] (fun i kk wr => ∃ (j : Nat) (S : Nat → Prop) (va : Value), j ≤ n ∧ i = .int .i64 (j : Int) ∧ Below w0.heap.size w0 wr ∧ wE.grownBy wr (some g) ∧ Row wr g 27 [va, .slice none 0 0, .slice none 0 0] ∧ OwnS 1 25 IsV wr wE.heap.size S va (rawM ((zca q).A.take j)) ∧ Hid (∀ b, S b → w0.heap.size ≤ b ∧ b ≠ g)) (fun i _ _ => n - (intOf i).toNat)
  case atStart => exact ⟨0, fun _ => False, _, Nat.zero_le _, rfl, HbE.out, zdr (Below.refl _ _), RE.out, by simpa [rawM] using (OwnS.nil (fun b h => False.elim h) : OwnS 1 25 IsV wE wE.heap.size (fun _ => False) _ _), fun b h => False.elim h⟩
  case round =>
    obtain ⟨j, S, va, hj, rfl, hbw, hgr, hrow, hown, hS⟩ := hrel
    have Hbw := Lib.hid hbw
    have Hgr := Lib.hid hgr
    have HRw := Lib.hid hrow
    have HS1 := Lib.hid hS.out
    have Hown := Lib.hid hown
    have hszE := hgr.size
    have hszw := hbw.size
    have cP0 := zab hbw CP.out.1
    have cP1 := zab hbw CP.out.2.1
    have cP2 := zab hbw CP.out.2.2
    obtain ⟨Aa, ca, hva⟩ := hown.slice
    subst hva
    obtain ⟨g0, g1, g2⟩ := zad hrow
    have hgw : g < wr.heap.size := hrow.lt
    clear hS hgr hrow hown
    rcases Nat.lt_or_ge j n with hlt | hge
    · have hwwr : Below w.heap.size w wr := zaa HB0.out hbw
      have Hwwr := Lib.hid hwwr
      have hnM : n ≤ 40 ∧ M ≤ 40 := ⟨hn40, hM40⟩
      clear hwwr
      go_wp2_with fail
      have D3 : Hid (∀ W : World, Below wr.heap.size wr W → Calls Tryz.prog 66 #[.slice A M cA, .int .i64 (j : Int)] W (fun e w' => (∃ v', e = .returned v' ∧ IsV w' (Old w') v' (rawV (colQ q.A j))) ∧ Below W.heap.size W w')) := fun W hW => column_l (n := n) (IsM.stb.to HA.out (zag (zaa Hwwr.out hW))) (by rw [HG.out.rows, ← HMl.out]; omega) Hrow.out hlt (by omega)
      go_region_law (first
          | ((rw [if_pos (by rfl)]); go_simp; go_at_call 66; (with_reducible refine Calls.mono (D3.out _ (by (repeat (first | exact Below.refl _ _ | assumption | refine zae ?_ _ | refine zah ?_ | refine zaf ?_ ?_ _ _ _ | refine zaj ?_ (by omega) | refine zaa ?_ (by assumption))); (first | done | fail))) ?_); rintro e w3 ⟨⟨v3, rfl, hv3⟩, hb3⟩; have V3 := Lib.hid hv3; obtain ⟨P3, k3, rfl, _⟩ := zau hv3; have D4 : Hid (∀ W : World, Below w3.heap.size w3 W → Calls Tryz.prog 71 #[.slice P3 (rawV (colQ q.A j)).length k3] W (fun e w' => (∃ v', e = .returned v' ∧ IsV w' (New W.heap.size w') v' (rawV ((colQ q.A j).map fun x => -x))) ∧ Below W.heap.size W w')) := fun W hW => negatives_l (IsV.stb.next V3.out hW) (fun x hx => (colQ_sz HG.out.szA (by omega) x hx).le (by omega)) (by rw [colQ_len, HG.out.rows, ← HMl.out]; omega); clear g0 g1 g2; obtain ⟨g0, g1, g2⟩ := zad (Row.next HRw.out (by (repeat (first | exact Below.refl _ _ | assumption | refine zae ?_ _ | refine zah ?_ | refine zaf ?_ ?_ _ _ _ | refine zaj ?_ (by omega) | refine zaa ?_ (by assumption))); (first | done | fail)) : Row w3 _ _ _); (try dsimp only))
          | ((rw [if_pos (by rfl)]); go_simp; go_at_call 71; (with_reducible refine Calls.mono (D4.out _ (by (repeat (first | exact Below.refl _ _ | assumption | refine zae ?_ _ | refine zah ?_ | refine zaf ?_ ?_ _ _ _ | refine zaj ?_ (by omega) | refine zaa ?_ (by assumption))); (first | done | fail))) ?_); rintro e w4 ⟨⟨v4, rfl, hv4⟩, hb4⟩; obtain ⟨P4, k4, rfl, _⟩ := zau hv4; clear g0 g1 g2; obtain ⟨g0, g1, g2⟩ := zad (Row.next HRw.out (by (repeat (first | exact Below.refl _ _ | assumption | refine zae ?_ _ | refine zah ?_ | refine zaf ?_ ?_ _ _ _ | refine zaj ?_ (by omega) | refine zaa ?_ (by assumption))); (first | done | fail)) : Row w4 _ _ _); have hB4 : Below wr.heap.size wr w4 := (by (repeat (first | exact Below.refl _ _ | assumption | refine zae ?_ _ | refine zah ?_ | refine zaf ?_ ?_ _ _ _ | refine zaj ?_ (by omega) | refine zaa ?_ (by assumption))); (first | done | fail)); have HO := Lib.hid (OwnS.step IsV.stb (T := fun b => S b ∨ (wr.heap.size ≤ b ∧ b < w4.heap.size)) Hown.out hB4 (fun b h => .inl h) (fun b h => h)); have HE := Lib.hid (IsV.stb.to hv4 (zat (T := fun b => S b ∨ (wr.heap.size ≤ b ∧ b < w4.heap.size)) fun b h => .inr ⟨Nat.le_trans (Below.size (w := wr) (by (repeat (first | exact Below.refl _ _ | assumption | refine zae ?_ _ | refine zah ?_ | refine zaf ?_ ?_ _ _ _ | refine zaj ?_ (by omega) | refine zaa ?_ (by assumption))); (first | done | fail))) h.1, h.2⟩)); have hb4w : wE.heap.size ≤ w4.heap.size := Nat.le_trans hszE hB4.size; have R4 := Lib.hid (Row.next HRw.out hB4); have ga0 := zab (zas w4 (.cells #[.slice P4 (rawV ((colQ q.A j).map fun x => -x)).length k4] 25)) g0; (try dsimp only))
          | (refine zfd elV rfl _ _ rfl IsV.stb rfl rfl rfl HO.out HE.out rfl (by intro u hu; simp [Value.cells] at hu; subst hu; rfl) (by have h1 := List.length_take_le j (zca q).A; rw [zek]; omega) hb4w ?_; intro v5 w5 hown5 hb5 hz5; obtain ⟨A5, c5, hA5⟩ := hown5.slice; rw [List.length_append, List.length_singleton] at hA5; subst hA5; have R5 := Row.below R4.out hb5 gE; obtain ⟨h0, h1, h2⟩ := zad R5; obtain ⟨y0, y1, y2⟩ := zax R5))
      all_goals
        go_wp2_with fail
        go_roundw
        case rel =>
          have hS7 : ∀ b, (S b ∨ (wr.heap.size ≤ b ∧ b < w4.heap.size)) → w0.heap.size ≤ b ∧ b ≠ g := fun b hb => by rcases hb with hb | hb; exact HS1.out b hb; exact ⟨by omega, by omega⟩
          refine ⟨j + 1, fun b => S b ∨ (wr.heap.size ≤ b ∧ b < w4.heap.size), _, by omega, by go_num, ((Hbw.out.trans (hB4.mono hszw)).trans (hb5.mono (by omega))).setCell (p := ⟨g, 0, none⟩) zg _, (zee Hgr.out ((hB4.mono hszE).trans hb5)).trans (zcn _ g 0 _), R5.set_ 0 _, ?_, hS7⟩
          refine OwnS.stepG IsV.stb ?_ (zcn _ g 0 _) gE (fun b h => (hS7 b h).2)
          rw [zcj (dualA_at (by rw [← Hnl.out]; exact hlt)), rawM_app]
          exact hown5
        case measure => simp [intOf]; omega
    · obtain rfl : j = n := by omega
      have e : (zca q).A.take j = (zca q).A := List.take_of_length_le (by unfold zca; simp only; rw [List.length_map, List.length_range, ← Hnl.out]; exact Nat.le_refl _)
      rw [e] at Hown
      have hT : IsM wr (SP w w0 g wr) _ (rawM (zca q).A) := OwnS.isS IsV.stb Hown.out (fun b hb => by obtain ⟨_, _, _, _, h4⟩ := Hown.out; exact ⟨.inr (HS1.out b hb).1, (h4 b hb).1, (HS1.out b hb).2⟩) (fun b h1 h2 => ⟨.inr (by have := HbE.out.size; omega), h2, by omega⟩)
      have HT := Lib.hid hT
      rw [e] at HRw g0
      clear hT e
      have hwwr : Below w.heap.size w wr := zaa HB0.out hbw
      have Hwwr := Lib.hid hwwr
      clear hwwr
      go_wp2_with fail
      have HS : Hid (∀ W : World, Below w0.heap.size w0 W → W.cell? ⟨w.heap.size, 1, none⟩ = some (.slice B M cB) ∧ W.cell? ⟨w.heap.size, 2, none⟩ = some (.slice C j cC)) := fun W hW => ⟨zab hW CP.out.2.1, zab hW CP.out.2.2⟩
      have D3 : Hid (∀ W : World, Below w0.heap.size w0 W → Calls Tryz.prog 71 #[.slice C j cC] W (fun e w' => (∃ v', e = .returned v' ∧ IsV w' (New W.heap.size w') v' (rawV (negV q.C))) ∧ Below W.heap.size W w')) := fun W hW => negatives_l (IsV.stb.to HC.out (zag (zaa HB0.out hW))) (fun x hx => (HG.out.szC x hx).le (by omega)) (by rw [← Hnl.out]; omega)
      have D4 : Hid (∀ W : World, Below w0.heap.size w0 W → Calls Tryz.prog 71 #[.slice B M cB] W (fun e w' => (∃ v', e = .returned v' ∧ IsV w' (New W.heap.size w') v' (rawV (negV q.B))) ∧ Below W.heap.size W w')) := fun W hW => negatives_l (IsV.stb.to HB.out (zag (zaa HB0.out hW))) (fun x hx => (HG.out.szB x hx).le (by omega)) (by rw [← HMl.out]; omega)
      go_region_held3 (fun w' => w'.cell? ⟨w.heap.size, 1, none⟩ = some (.slice B M cB) ∧ w'.cell? ⟨w.heap.size, 2, none⟩ = some (.slice C j cC))
        (exact HS.out _ (by (repeat (first | exact Below.refl _ _ | assumption | refine zae ?_ _ | refine zah ?_ | refine zaf ?_ ?_ _ _ _ | refine zaj ?_ (by omega) | refine zaa ?_ (by assumption))); (first | done | fail)))
        (first
          | (go_at_call 71; (with_reducible refine Calls.mono (D3.out _ (by (repeat (first | exact Below.refl _ _ | assumption | refine zae ?_ _ | refine zah ?_ | refine zaf ?_ ?_ _ _ _ | refine zaj ?_ (by omega) | refine zaa ?_ (by assumption))); (first | done | fail))) ?_); rintro e w3 ⟨⟨v3, rfl, hv3⟩, hb3⟩; have V3 := Lib.hid hv3; obtain ⟨P3, k3, rfl, _⟩ := zau hv3; clear g0 g1 g2; obtain ⟨g0, g1, g2⟩ := zad (Row.next HRw.out (by (repeat (first | exact Below.refl _ _ | assumption | refine zae ?_ _ | refine zah ?_ | refine zaf ?_ ?_ _ _ _ | refine zaj ?_ (by omega) | refine zaa ?_ (by assumption))); (first | done | fail)) : Row w3 _ _ _); obtain ⟨y0, y1, y2⟩ := zax (Row.next HRw.out (by (repeat (first | exact Below.refl _ _ | assumption | refine zae ?_ _ | refine zah ?_ | refine zaf ?_ ?_ _ _ _ | refine zaj ?_ (by omega) | refine zaa ?_ (by assumption))); (first | done | fail)) : Row w3 _ _ _))
          | (go_at_call 71; (with_reducible refine Calls.mono (D4.out _ (by (repeat (first | exact Below.refl _ _ | assumption | refine zae ?_ _ | refine zah ?_ | refine zaf ?_ ?_ _ _ _ | refine zaj ?_ (by omega) | refine zaa ?_ (by assumption))); (first | done | fail))) ?_); rintro e w4 ⟨⟨v4, rfl, hv4⟩, hb4⟩; have V4 := Lib.hid hv4; obtain ⟨P4, k4, rfl, _⟩ := zau hv4; clear g0 g1 g2; obtain ⟨g0, g1, g2⟩ := zad (Row.next HRw.out (by (repeat (first | exact Below.refl _ _ | assumption | refine zae ?_ _ | refine zah ?_ | refine zaf ?_ ?_ _ _ _ | refine zaj ?_ (by omega) | refine zaa ?_ (by assumption))); (first | done | fail)) : Row w4 _ _ _); obtain ⟨y0, y1, y2⟩ := zax (Row.next HRw.out (by (repeat (first | exact Below.refl _ _ | assumption | refine zae ?_ _ | refine zah ?_ | refine zaf ?_ ?_ _ _ _ | refine zaj ?_ (by omega) | refine zaa ?_ (by assumption))); (first | done | fail)) : Row w4 _ _ _)))
      have hz := Hz.out
      have h3s := hb3.size
      have h4s := hb4.size
      have hdw : (World.drew wr).heap.size = wr.heap.size := rfl
      have hB4 : Below wr.heap.size wr w4 := (by (repeat (first | exact Below.refl _ _ | assumption | refine zae ?_ _ | refine zah ?_ | refine zaf ?_ ?_ _ _ _ | refine zaj ?_ (by omega) | refine zaa ?_ (by assumption))); (first | done | fail))
      have H04 : Below w0.heap.size w0 w4 := Below.trans Hbw.out (hB4.mono hszw)
      have HT4 := Lib.hid (IsM.stb.to (IsM.stb.to HT.out (zbq (S := SP w w0 g wr) hB4 fun b h => h.2.1)) (zat (T := SP w w0 g w4) fun b h => ⟨h.1, Nat.lt_of_lt_of_le h.2.1 hB4.size, h.2.2⟩))
      have VB4 := Lib.hid (IsV.stb.to (IsV.stb.to V3.out (zbq (S := New wr.heap.size w3) hb4 fun b h => h.2)) (zat (T := SP w w0 g w4) fun b h => ⟨.inr (by have := h.1; omega), Nat.lt_of_lt_of_le h.2 h4s, by have := h.1; omega⟩))
      have VC4 := Lib.hid (IsV.stb.to V4.out (zat (T := SP w w0 g w4) fun b h => ⟨.inr (by have := h.1; omega), h.2, by have := h.1; omega⟩))
      have R4 : Row w4 g _ _ := Row.next HRw.out hB4
      have R6 := Lib.hid ((R4.set_ 1 (.slice P3 (rawV (negV q.C)).length k3)).set_ 2 (.slice P4 (rawV (negV q.B)).length k4))
      have RZ4 : Row w4 (w.heap.size + 1) _ _ := Row.below RZ.out H04 RZ.out.lt
      have RZ6 := Lib.hid ((RZ4.far (p := ⟨g, 1, none⟩) (by show _ ≠ g; omega) (.slice P3 (rawV (negV q.C)).length k3)).far (p := ⟨g, 2, none⟩) (by show _ ≠ g; omega) (.slice P4 (rawV (negV q.B)).length k4))
      have HBf := Lib.hid (((zaa HB0.out H04).setCell (p := ⟨g, 1, none⟩) (by show _ ≤ g; omega) (.slice P3 (rawV (negV q.C)).length k3)).setCell (p := ⟨g, 2, none⟩) (by show _ ≤ g; omega) (.slice P4 (rawV (negV q.B)).length k4))
      clear g0 g1 g2 y0 y1 y2
      obtain ⟨g0, g1, g2⟩ := zad R6.out
      obtain ⟨z0, z1, z2⟩ := zad RZ6.out
      obtain ⟨y0, y1, y2⟩ := zax RZ6.out
      clear R4 RZ4 H04 hB4 h3s h4s hdw
      go_wp2_with fail
      refine bodyPost_ret (results_prog2 rfl rfl (Row.put3 RZ6.out _ _ _)) rfl ?_
      exact ⟨⟨_, rfl, isP_mk (p := rawP (zca q)) (IsM.stb.to HT4.out (same_fin (by omega))) (IsV.stb.to VB4.out (same_fin (by omega))) (IsV.stb.to VC4.out (same_fin (by omega)))⟩, zbn HBf.out (by omega) _ _ _⟩
theorem ret_two {v : Value} {b : Value} {e f : Int} (h : e = f) : Ending.returned (.tuple #[b, .int .i64 e]) = .returned (.tuple #[b, .int .i64 f]) := by rw [h]
theorem nsIn1 {w : World} {g n : Nat} {t : TypeId} (h : Row w g t [.int .i64 (n : Int)]) : NsIn w (.slice (some ⟨g, 0, none⟩) 1 1) [n] := by
  refine ⟨g, 1, rfl, h.lt, fun j m hj => ?_⟩
  match j, hj with
  | 0, hj => simp at hj; subst hj; exact h.cell 0
theorem nsIn2 {w : World} {g n m : Nat} {t : TypeId} (h : Row w g t [.int .i64 (n : Int), .int .i64 (m : Int)]) : NsIn w (.slice (some ⟨g, 0, none⟩) 2 2) [n, m] := by
  refine ⟨g, 2, rfl, h.lt, fun j k hj => ?_⟩
  match j, hj with
  | 0, hj => simp at hj; subst hj; exact h.cell 0
  | 1, hj => simp at hj; subst hj; exact h.cell 1
theorem givE_ok1 {p : Prog} {n : Nat} {x : List Raw} (h : givE p [n] [x] = 0) : ∃ (q : ProgQ) (xq : List Rat), p = rawP q ∧ Good q 1024 ∧ x = rawV xq ∧ xq.length = n ∧ (∀ e ∈ xq, Sz e 1024) := by
  unfold givE at h
  split at h
  · rename_i h1; exact absurd h h1
  rename_i h1
  obtain ⟨q, rfl, hq⟩ := chkP_ok (Decidable.not_not.1 h1)
  have h2 := zfc h (vecE n x) (by simp)
  unfold vecE at h2
  split at h2
  · rename_i h3; exact absurd h2 h3
  rename_i h3
  obtain ⟨_, xq, rfl, hs⟩ := chkV_ok (Decidable.not_not.1 h3)
  refine ⟨q, xq, rfl, hq, rfl, ?_, hs⟩
  split at h2
  · cases h2
  · rename_i h4; rw [List.length_map] at h4; exact Decidable.not_not.1 h4
theorem givE_ok2 {p : Prog} {n m : Nat} {x y : List Raw} (h : givE p [n, m] [x, y] = 0) : ∃ (q : ProgQ) (xq yq : List Rat), p = rawP q ∧ Good q 1024 ∧ x = rawV xq ∧ xq.length = n ∧ (∀ e ∈ xq, Sz e 1024) ∧ y = rawV yq ∧ yq.length = m ∧ (∀ e ∈ yq, Sz e 1024) := by
  have h0 : chkP p = 0 := by
    unfold givE at h
    split at h
    · rename_i h1; exact absurd h h1
    · rename_i h1; exact Decidable.not_not.1 h1
  have h1 : givE p [n] [x] = 0 := by
    unfold givE at h ⊢
    rw [if_neg (fun h => h h0)] at h ⊢
    have := zfc h (vecE n x) (by simp)
    simp [fstE, this]
  have h2 : givE p [m] [y] = 0 := by
    unfold givE at h ⊢
    rw [if_neg (fun h => h h0)] at h ⊢
    have := zfc h (vecE m y) (by simp)
    simp [fstE, this]
  obtain ⟨q, xq, rfl, hq, rfl, h3, h4⟩ := givE_ok1 h1
  obtain ⟨_, yq, _, _, rfl, h5, h6⟩ := givE_ok1 h2
  exact ⟨q, xq, yq, rfl, hq, rfl, h3, h4, rfl, h5, h6⟩
set_option maxHeartbeats 1000000 in
theorem feasible_bad {w : World} {vp vx : Value} {p : Prog} {x : List Raw} (hp : IsP w (Old w) vp p) (hx : IsV w (Old w) vx x) (hB : Bru w) (h0 : givE p [p.C.length] [x] ≠ 0) :
    Calls Tryz.prog 24 #[vp, vx] w fun e w' => e = .returned (.tuple #[.bool false, .int .i64 (givE p [p.C.length] [x])]) ∧ Below w.heap.size w w' := by
  have hp2 := hp
  have HX := Lib.hid hx
  have HP := Lib.hid hp2
  have HB := Lib.hid hB
  obtain ⟨A, cA, B, cB, C, cC, rfl, _, _, hC⟩ := id hp2
  obtain ⟨D, d, rfl, hxl⟩ := zau hx
  have hcl := (zau hC).choose_spec.choose_spec.2
  obtain ⟨n, hn⟩ : ∃ n, n = p.C.length := ⟨_, rfl⟩
  obtain ⟨E, hE⟩ : ∃ E, E = givE p [p.C.length] [x] := ⟨_, rfl⟩
  rw [← hE] at h0
  have HE := Lib.hid hE
  clear hp hx hB hC hE hp2
  obtain ⟨w0, hw0, hb0, rP, rN, rL, Hz⟩ := zem w #[.slice A p.A.length cA, .slice B p.B.length cB, .slice C p.C.length cC] #[.int .i64 (p.C.length : Int)] #[.slice D (x).length d] 27 3 25
  have Hc := Lib.hid (given_l (IsP.stb.to HP.out (zag hb0)) (nsIn1 rN) (isM_row1 rL (IsV.stb.to HX.out (zag hb0))) (Bru.next HB.out hb0) rfl (by intro m hm; simp at hm; omega) (by simp))
  have HB0 := Lib.hid hb0
  have RP := Lib.hid rP
  obtain ⟨cP0, cP1, cP2⟩ := zad rP
  clear rP rN rL hb0
  have e0 : (E != 0) = true := bne_iff_ne.2 h0
  rw [← HE.out]
  clear h0
  go_enter Tryz.func24, Tryz.ntmps24
  go_wp2_with fail
  clear hw0
  refine Hc.out.mono ?_
  rw [← HE.out]
  rintro e w1 ⟨rfl, hb⟩
  have Hb1 := Lib.hid (zaa HB0.out hb)
  have RP1 := Lib.hid (RP.out.next hb)
  clear hb cP0 cP1 cP2
  obtain ⟨cP0, cP1, cP2⟩ := zad RP1.out
  go_wp2_with fail
  go_ret2
  exact ⟨rfl, Hb1.out⟩
set_option maxHeartbeats 1000000 in
theorem feasible_good {w : World} {vp vx : Value} {q : ProgQ} {x : List Rat} (hp : IsP w (Old w) vp (rawP q)) (hx : IsV w (Old w) vx (rawV x)) (hB : Bru w) (hg : Good q 1024) (h0 : givE (rawP q) [(rawP q).C.length] [rawV x] = 0) (hl : x.length = q.C.length) (hsx : ∀ e ∈ x, Sz e 1024) :
    Calls Tryz.prog 24 #[vp, vx] w fun e w' => e = .returned (.tuple #[.bool (zeg q.A q.B x), .int .i64 0]) ∧ Below w.heap.size w w' := by
  obtain ⟨p, hpp⟩ : ∃ p, p = rawP q := ⟨_, rfl⟩
  rw [← hpp] at h0
  have hp2 := hp
  rw [← hpp] at hp2
  have HQ := Lib.hid hp
  have HX := Lib.hid hx
  have Hpp := Lib.hid hpp
  have HG := Lib.hid hg
  have Hl := Lib.hid hl
  have Hsx := Lib.hid hsx
  clear hg hl hsx hpp
  have HP := Lib.hid hp2
  have HB := Lib.hid hB
  obtain ⟨A, cA, B, cB, C, cC, rfl, _, _, hC⟩ := id hp2
  obtain ⟨D, d, rfl, hxl⟩ := zau hx
  have hcl := (zau hC).choose_spec.choose_spec.2
  obtain ⟨n, hn⟩ : ∃ n, n = p.C.length := ⟨_, rfl⟩
  obtain ⟨E, hE⟩ : ∃ E, E = givE p [p.C.length] [rawV x] := ⟨_, rfl⟩
  rw [← hE] at h0
  have HE := Lib.hid hE
  clear hp hx hB hC hE hp2
  obtain ⟨w0, hw0, hb0, rP, rN, rL, Hz⟩ := zem w #[.slice A p.A.length cA, .slice B p.B.length cB, .slice C p.C.length cC] #[.int .i64 (p.C.length : Int)] #[.slice D (rawV x).length d] 27 3 25
  have Hc := Lib.hid (given_l (IsP.stb.to HP.out (zag hb0)) (nsIn1 rN) (isM_row1 rL (IsV.stb.to HX.out (zag hb0))) (Bru.next HB.out hb0) rfl (by intro m hm; simp at hm; omega) (by simp))
  have HB0 := Lib.hid hb0
  have RP := Lib.hid rP
  obtain ⟨cP0, cP1, cP2⟩ := zad rP
  clear rP rN rL hb0
  have e0 : E = 0 := h0
  subst e0
  go_enter Tryz.func24, Tryz.ntmps24
  go_wp2_with fail
  clear hw0
  refine Hc.out.mono ?_
  rw [← HE.out]
  rintro e w1 ⟨rfl, hb⟩
  have Hb1 := Lib.hid (zaa HB0.out hb)
  have RP1 := Lib.hid (RP.out.next hb)
  clear hb cP0 cP1 cP2
  obtain ⟨cP0, cP1, cP2⟩ := zad RP1.out
  go_wp2_with fail
  refine (zef (IsP.stb.to HQ.out (zag Hb1.out)) (IsV.stb.to HX.out (zag Hb1.out)) (Bru.next HB.out Hb1.out) HG.out Hl.out Hsx.out).mono ?_
  rintro e w2 ⟨rfl, hb⟩
  go_wp2_with fail
  go_ret2
  exact ⟨rfl, zaa Hb1.out hb⟩
set_option maxHeartbeats 1000000 in
theorem pair_bad {w : World} {vp vx vy : Value} {p : Prog} {x y : List Raw} (hp : IsP w (Old w) vp p) (hx : IsV w (Old w) vx x) (hy : IsV w (Old w) vy y) (hB : Bru w) (h0 : givE p [p.C.length, p.B.length] [x, y] ≠ 0) :
    Calls Tryz.prog 56 #[vp, vx, vy] w fun e w' => e = .returned (.int .i64 (givE p [p.C.length, p.B.length] [x, y])) ∧ Below w.heap.size w w' := by
  have hp2 := hp
  have HX := Lib.hid hx
  have HY := Lib.hid hy
  have HP := Lib.hid hp2
  have HB := Lib.hid hB
  obtain ⟨A, cA, B, cB, C, cC, rfl, _, hBv, hC⟩ := id hp2
  obtain ⟨D, d, rfl, hxl⟩ := zau hx
  obtain ⟨D2, d2, rfl, hyl⟩ := zau hy
  have hcl := (zau hC).choose_spec.choose_spec.2
  have hbl := (zau hBv).choose_spec.choose_spec.2
  obtain ⟨E, hE⟩ : ∃ E, E = givE p [p.C.length, p.B.length] [x, y] := ⟨_, rfl⟩
  rw [← hE] at h0
  have HE := Lib.hid hE
  clear hp hx hy hB hC hBv hE hp2
  obtain ⟨w0, hw0, hb0, rP, rN, rL, Hz⟩ := zem w #[.slice A p.A.length cA, .slice B p.B.length cB, .slice C p.C.length cC] #[.int .i64 (p.C.length : Int), .int .i64 (p.B.length : Int)] #[.slice D (x).length d, .slice D2 (y).length d2] 27 3 25
  have Hc := Lib.hid (given_l (IsP.stb.to HP.out (zag hb0)) (nsIn2 rN) (isM_row2 rL (IsV.stb.to HX.out (zag hb0)) (IsV.stb.to HY.out (zag hb0))) (Bru.next HB.out hb0) rfl (by intro m hm; simp at hm; omega) (by simp))
  have HB0 := Lib.hid hb0
  have RP := Lib.hid rP
  obtain ⟨cP0, cP1, cP2⟩ := zad rP
  clear rP rN rL hb0
  have e0 : (E != 0) = true := bne_iff_ne.2 h0
  rw [← HE.out]
  clear h0
  go_enter Tryz.func56, Tryz.ntmps56
  go_wp2_with fail
  clear hw0
  refine Hc.out.mono ?_
  rw [← HE.out]
  rintro e w1 ⟨rfl, hb⟩
  have Hb1 := Lib.hid (zaa HB0.out hb)
  have RP1 := Lib.hid (RP.out.next hb)
  clear hb cP0 cP1 cP2
  obtain ⟨cP0, cP1, cP2⟩ := zad RP1.out
  go_wp2_with fail
  go_ret
  exact ⟨rfl, Hb1.out⟩
set_option maxHeartbeats 1000000 in
theorem pair_good {w : World} {vp vx vy : Value} {q : ProgQ} {x y : List Rat} {r : Int} (hp : IsP w (Old w) vp (rawP q)) (hx : IsV w (Old w) vx (rawV x)) (hy : IsV w (Old w) vy (rawV y)) (hB : Bru w) (hg : Good q 1024) (h0 : givE (rawP q) [(rawP q).C.length, (rawP q).B.length] [rawV x, rawV y] = 0)
    (hl : x.length = q.C.length) (hsx : ∀ e ∈ x, Sz e 1024) (hly : y.length = q.B.length) (hsy : ∀ e ∈ y, Sz e 1024) (hr : r = if zeg q.A q.B x = true ∧ sufB q.A q.C y = true then 0 else 13) :
    Calls Tryz.prog 56 #[vp, vx, vy] w fun e w' => e = .returned (.int .i64 r) ∧ Below w.heap.size w w' := by
  obtain ⟨p, hpp⟩ : ∃ p, p = rawP q := ⟨_, rfl⟩
  rw [← hpp] at h0
  have hp2 := hp
  rw [← hpp] at hp2
  have HQ := Lib.hid hp
  have HX := Lib.hid hx
  have HY := Lib.hid hy
  have Hpp := Lib.hid hpp
  have HG := Lib.hid hg
  have Hl := Lib.hid hl
  have Hsx := Lib.hid hsx
  have Hly := Lib.hid hly
  have Hsy := Lib.hid hsy
  have Hr := Lib.hid hr
  clear hg hl hsx hpp hly hsy hr
  have HP := Lib.hid hp2
  have HB := Lib.hid hB
  obtain ⟨A, cA, B, cB, C, cC, rfl, _, hBv, hC⟩ := id hp2
  obtain ⟨D, d, rfl, hxl⟩ := zau hx
  obtain ⟨D2, d2, rfl, hyl⟩ := zau hy
  have hcl := (zau hC).choose_spec.choose_spec.2
  have hbl := (zau hBv).choose_spec.choose_spec.2
  obtain ⟨E, hE⟩ : ∃ E, E = givE p [p.C.length, p.B.length] [rawV x, rawV y] := ⟨_, rfl⟩
  rw [← hE] at h0
  have HE := Lib.hid hE
  clear hp hx hy hB hC hBv hE hp2
  obtain ⟨w0, hw0, hb0, rP, rN, rL, Hz⟩ := zem w #[.slice A p.A.length cA, .slice B p.B.length cB, .slice C p.C.length cC] #[.int .i64 (p.C.length : Int), .int .i64 (p.B.length : Int)] #[.slice D (rawV x).length d, .slice D2 (rawV y).length d2] 27 3 25
  have Hc := Lib.hid (given_l (IsP.stb.to HP.out (zag hb0)) (nsIn2 rN) (isM_row2 rL (IsV.stb.to HX.out (zag hb0)) (IsV.stb.to HY.out (zag hb0))) (Bru.next HB.out hb0) rfl (by intro m hm; simp at hm; omega) (by simp))
  have HB0 := Lib.hid hb0
  have RP := Lib.hid rP
  obtain ⟨cP0, cP1, cP2⟩ := zad rP
  clear rP rN rL hb0
  have e0 : E = 0 := h0
  subst e0
  go_enter Tryz.func56, Tryz.ntmps56
  go_wp2_with fail
  clear hw0
  refine Hc.out.mono ?_
  rw [← HE.out]
  rintro e w1 ⟨rfl, hb⟩
  have Hb1 := Lib.hid (zaa HB0.out hb)
  have RP1 := Lib.hid (RP.out.next hb)
  clear hb cP0 cP1 cP2
  obtain ⟨cP0, cP1, cP2⟩ := zad RP1.out
  obtain ⟨w2, hw2, hb2, rS, Hz2⟩ := zbm w1 #[.slice A p.A.length cA, .slice B p.B.length cB, .slice C p.C.length cC] 84
  have Hb2 := Lib.hid (zaa Hb1.out hb2)
  have RS := Lib.hid rS
  obtain ⟨cS0, cS1, cS2⟩ := zad rS
  obtain ⟨b1, hb1⟩ : ∃ b, b = zeg q.A q.B x := ⟨_, rfl⟩
  obtain ⟨b2, hb2'⟩ : ∃ b, b = sufB q.A q.C y := ⟨_, rfl⟩
  rw [← hb1, ← hb2'] at Hr
  have Hb1q := Lib.hid hb1
  have Hb2q := Lib.hid hb2'
  clear rS hb2 hb1 hb2'
  cases b1 with
  | false =>
    go_wp2_with fail
    clear hw2
    refine (zef (IsP.stb.to HQ.out (zag Hb2.out)) (IsV.stb.to HX.out (zag Hb2.out)) (Bru.next HB.out Hb2.out) HG.out Hl.out Hsx.out).mono ?_
    rw [← Hb1q.out]
    rintro e w3 ⟨rfl, hb⟩
    have Hb3 := Lib.hid (zaa Hb2.out hb)
    have RS3 := Lib.hid (RS.out.next hb)
    clear hb cS0 cS1 cS2
    obtain ⟨cS0, cS1, cS2⟩ := zad RS3.out
    have Hr2 : Hid (r = 13) := by rw [Hid, Hr.out]; simp
    go_wp2_with fail
    go_ret
    exact ⟨zar Hr2.out.symm, Hb3.out⟩
  | true =>
    go_wp2_with fail
    clear hw2
    refine (zef (IsP.stb.to HQ.out (zag Hb2.out)) (IsV.stb.to HX.out (zag Hb2.out)) (Bru.next HB.out Hb2.out) HG.out Hl.out Hsx.out).mono ?_
    rw [← Hb1q.out]
    rintro e w3 ⟨rfl, hb⟩
    have Hb3 := Lib.hid (zaa Hb2.out hb)
    have RS3 := Lib.hid (RS.out.next hb)
    clear hb cS0 cS1 cS2
    obtain ⟨cS0, cS1, cS2⟩ := zad RS3.out
    cases b2 with
    | false =>
      have Hr2 : Hid (r = 13) := by rw [Hid, Hr.out]; simp
      go_wp2_with fail
      refine (suffices_l (IsP.stb.to HQ.out (zag Hb3.out)) (IsV.stb.to HY.out (zag Hb3.out)) (Bru.next HB.out Hb3.out) HG.out Hly.out Hsy.out).mono ?_
      rw [← Hb2q.out]
      rintro e w4 ⟨rfl, hb⟩
      go_wp2_with fail
      go_ret
      exact ⟨zar Hr2.out.symm, zaa Hb3.out hb⟩
    | true =>
      have Hr2 : Hid (r = 0) := by rw [Hid, Hr.out]; simp
      go_wp2_with fail
      refine (suffices_l (IsP.stb.to HQ.out (zag Hb3.out)) (IsV.stb.to HY.out (zag Hb3.out)) (Bru.next HB.out Hb3.out) HG.out Hly.out Hsy.out).mono ?_
      rw [← Hb2q.out]
      rintro e w4 ⟨rfl, hb⟩
      go_wp2_with fail
      go_ret
      exact ⟨zar Hr2.out.symm, zaa Hb3.out hb⟩
end Go.Proofs.YtblpaocignlpkaaGreatDoor
