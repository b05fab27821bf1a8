/-
  The zav of the law's own matrix: rows of drawn numbers, some of them sums of the two rows ahead.
-/
import Derived.Test.YtblpaocignlpkaaDoorProofVectorKernels02
import Derived.Test.YtblpaocignlpkaaDoorProofVectorKernels04
import Derived.Test.YtblpaocignlpkaaDoorVkrn09
import Derived.Test.YtblpaocignlpkaaDoorVkrn16
import Derived.Test.YtblpaocignlpkaaDoorVkrn11
import Derived.Test.YtblpaocignlpkaaDoorProofVectorKernels01
import Derived.Test.YtblpaocignlpkaaDoorVkrn07
import Derived.Test.YtblpaocignlpkaaDoorVkrn18
namespace Go.Proofs.YtblpaocignlpkaaDoor
open Go.RowKit
set_option linter.unusedVariables false
structure DrawnM (n m : Nat) (M : List (List Rat)) : Prop where
  len : M.length = n
  row : ∀ r ∈ M, r.length = m
  num : ∀ i r, M[i]? = some r → ∀ q ∈ r, Twelve (48 * 2 ^ i) q
theorem pow_le5 {i : Nat} (h : i ≤ 5) : 48 * 2 ^ i ≤ 1536 := by
  have : i = 0 ∨ i = 1 ∨ i = 2 ∨ i = 3 ∨ i = 4 ∨ i = 5 := by omega
  rcases this with rfl | rfl | rfl | rfl | rfl | rfl <;> decide
theorem DrawnM.twelve {n m : Nat} {M : List (List Rat)} (h : DrawnM n m M) (hn : n ≤ 5) : ∀ r ∈ M, ∀ q ∈ r, Twelve 1536 q := fun r hr q hq => by
  obtain ⟨i, hi, rfl⟩ := List.getElem_of_mem hr
  have hl := h.len
  exact (h.num i _ (List.getElem?_eq_getElem hi) q hq).le (pow_le5 (by omega))
theorem DrawnM.sz {n m : Nat} {M : List (List Rat)} (h : DrawnM n m M) (hn : n ≤ 5) : ∀ r ∈ M, ∀ q ∈ r, Sz q 1 := fun r hr q hq => (h.twelve hn r hr q hq).sz (by omega)
theorem DrawnM.snoc {n m : Nat} {M : List (List Rat)} {r : List Rat} (h : DrawnM n m M) (hr : r.length = m) (hq : ∀ q ∈ r, Twelve (48 * 2 ^ n) q) : DrawnM (n + 1) m (M ++ [r]) := by
  refine ⟨by simp [h.len], fun s hs => ?_, fun i s hs q hq' => ?_⟩
  · rcases List.mem_append.1 hs with hs | hs
    · exact h.row s hs
    · rw [List.mem_singleton.1 hs]; exact hr
  · rcases Nat.lt_or_ge i M.length with hi | hi
    · rw [List.getElem?_append_left hi] at hs
      exact h.num i s hs q hq'
    · rw [List.getElem?_append_right hi] at hs
      have : i - M.length = 0 := by
        rcases Nat.eq_zero_or_pos (i - M.length) with h0 | h0
        · exact h0
        · rw [List.getElem?_eq_none (by simp; omega)] at hs; cases hs
      rw [this] at hs
      cases hs
      have hl := h.len
      obtain rfl : i = n := by omega
      exact hq q hq'
set_option maxRecDepth 100000 in
set_option maxHeartbeats 8000000 in
theorem matrix_l {w : World} {g : Nat} {l : List Int} (hD : IsD w g l) {n m : Nat} (hn : n ≤ 5) (hm : m ≤ 5) : Calls Tryd.prog 24 #[.pointer (some ⟨g, 0, none⟩), .int .i64 (n : Int), .int .i64 (m : Int)] w (DrewR IsM (fun a => ∃ M : List (List Rat), a = rawM M ∧ DrawnM n m M) w g l) := by
  have hgw := hD.lt
  have D0 := Lib.hid hD
  clear hD
  go_enter Tryd.func24, Tryd.ntmps24
  go_wp2_with fail
  go_loopw [8, 7, 9, 10, 11] (fun ii ov _ _ _ wr => ∃ (i : Nat) (S : Nat → Prop) (M : List (List Rat)), i ≤ n ∧ ii = .int .i64 (i : Int) ∧ w.grownBy wr (some g) ∧ IsD wr g l ∧ Hid (OwnS 1 29 IsV wr w.heap.size S ov (rawM M)) ∧ Hid (DrawnM i m M ∧ ∀ b, S b → w.heap.size ≤ b)) (fun ii _ _ _ _ _ => n - (intOf ii).toNat)
  case atStart => exact ⟨0, fun _ => False, [], Nat.zero_le _, rfl, zan _ _, D0.out, OwnS.nil (fun b hb => hb.elim), ⟨rfl, (fun _ h => by cases h), fun _ _ h => by cases h⟩, fun b hb => hb.elim⟩
  case round =>
    obtain ⟨wo, rfl⟩ : ∃ x, x = wr := ⟨_, rfl⟩
    obtain ⟨i, S, M, hi, rfl, hgr, hD, hown, hM⟩ := hrel
    have G := Lib.hid hgr
    have D := Lib.hid hD
    have Own := Lib.hid hown.out
    have HM := Lib.hid hM.out.1
    have HS := Lib.hid hM.out.2
    clear hgr hD hown hM
    rcases Nat.lt_or_ge i n with hlt | hge
    · have Hlt := Lib.hid hlt
      have hgo : g < wo.heap.size := Nat.lt_of_lt_of_le hgw G.out.size
      obtain ⟨A0, cA0, hA0⟩ := Own.out.slice
      rw [zda, HM.out.len] at hA0
      subst hA0
      go_wp2_with fail
      clear hlt
      go_loopw [10, 9, 11] (fun kk rv _ wi => ∃ (k : Nat) (S2 : Nat → Prop) (q : List Rat), k ≤ m ∧ kk = .int .i64 (k : Int) ∧ wo.grownBy wi (some g) ∧ IsD wi g l ∧ Hid (OwnS 3 50 IsR wi wo.heap.size S2 rv (rawV q)) ∧ Hid (q.length = k ∧ (∀ x ∈ q, Twelve (48 * 2 ^ i) x) ∧ ∀ b, S2 b → wo.heap.size ≤ b)) (fun kk _ _ _ => m - (intOf kk).toNat)
      case atStart => exact ⟨0, fun _ => False, [], Nat.zero_le _, rfl, (zan _ _), D.out, OwnS.nil (fun b hb => hb.elim), rfl, (fun _ h => by cases h), fun b hb => hb.elim⟩
      case round =>
        obtain ⟨wi, rfl⟩ : ∃ x, x = wr := ⟨_, rfl⟩
        obtain ⟨k, S2, q, hk, rfl, hgi, hDi, hrow, hq⟩ := hrel
        have GI := Lib.hid hgi
        have DI := Lib.hid hDi
        have OwnI := Lib.hid hrow.out
        have hql := hq.out.1
        have hzi : wo.heap.size ≤ wi.heap.size := GI.out.size
        clear hgi hDi hrow
        rcases Nat.lt_or_ge k m with hkm | hkm
        · have Hkm := Lib.hid hkm
          go_wp2_with fail
          refine (rational_q DI.out (.inl rfl)).mono ?_
          rintro e w2 ⟨⟨v2, x', rfl, hv2, hsx'⟩, hD2, hg2⟩
          obtain ⟨s2, P2, k2, O2, l2, rfl, _, _, _⟩ := zam hv2
          obtain ⟨wx, hwx, hbx, rx, hzx⟩ := zch w2 #[.bool s2, .slice P2 (lim x'.num.natAbs).length k2, .slice O2 (lim x'.den).length l2] 50
          have G2 := Lib.hid (zat hg2 (zbf hbx))
          have D2 := Lib.hid (hD2.next hbx hD2.lt)
          have V2 := Lib.hid (IsQ.stb.fresh hv2 hbx)
          have RX := Lib.hid rx
          have Hzx := Lib.hid hzx.out
          have T2 : Hid (Twelve 48 x') := Drawn.twelve hsx'
          obtain ⟨g0, g1, g2⟩ := zad rx
          have hgx : g ≠ w2.heap.size := by have := hD2.lt; omega
          have hz2 : wi.heap.size ≤ w2.heap.size := hg2.size
          clear hv2 hsx' hD2 hg2 rx hzx hbx
          have hown2 : Hid (OwnS 3 50 IsR wx wo.heap.size (fun b => S2 b ∨ (wi.heap.size ≤ b ∧ b < wx.heap.size)) _ (rawV q)) := OwnS.drawn IsR.stb OwnI.out hq.out.2.2 G2.out hgo
          by_cases hi1 : 1 < i
          · have hi1' : (1 : Int) < (i : Int) := by omega
            go_wp2_with fail
            clear hwx g0 g1 g2
            refine (next_i D2.out 3 (by omega) (by omega)).mono ?_
            rintro e w3 ⟨⟨y, hy0, hy1, rfl⟩, hD3, hO3⟩
            have D3 := Lib.hid hD3
            have G3 := Lib.hid hO3.grown
            have G7 := Lib.hid (zat GI.out (zat G2.out hO3.grown))
            have R3 := Lib.hid (RX.out.grownN hO3.grown fun b e => by cases e; exact hgx.symm)
            have hz3 : w3.heap.size = wx.heap.size := hO3.size
            have Hz3 := Lib.hid hz3
            have V3 : Hid (IsQ w3 (New wi.heap.size w3) (.agg #[.bool s2, .slice P2 (lim x'.num.natAbs).length k2, .slice O2 (lim x'.den).length l2]) x') := IsQ.stb.to V2.out fun b hb => ⟨⟨hb.1, by rw [hz3]; exact hb.2⟩, fun o => World.cell?_of_block (hO3.block b (by have h1 := hb.1; have h2 := DI.out.lt; omega))⟩
            obtain ⟨g0, g1, g2⟩ := zad R3.out
            clear hD3 hO3 hz3
            by_cases hy : y = 0
            · subst hy
              obtain ⟨i1, hi1e⟩ : ∃ i1, i = i1 + 1 := ⟨i - 1, by omega⟩
              obtain ⟨i2, hi2e⟩ : ∃ i2, i = i2 + 2 := ⟨i - 2, by omega⟩
              have GO3 : wo.grownBy w3 (some g) := G7.out
              have hMo : IsM wo (New w.heap.size wo) (.slice A0 i cA0) (rawM M) := OwnS.isS IsV.stb Own.out (fun b hb => by
                obtain ⟨_, _, _, _, h4⟩ := Own.out
                exact ⟨HS.out b hb, (h4 b hb).1⟩) (fun b h1 h2 => ⟨h1, h2⟩)
              have hM3 : IsM w3 (New w.heap.size wo) (.slice A0 i cA0) (rawM M) := IsM.stb.to hMo (same_grownS GO3 fun b hb => ⟨hb.2, fun e => by have := hb.1; cases e; omega⟩)
              obtain ⟨r1, hr1, hrr1⟩ := rawM_get (m := M) (j := i1) (by rw [HM.out.len]; omega)
              obtain ⟨r2, hr2, hrr2⟩ := rawM_get (m := M) (j := i2) (by rw [HM.out.len]; omega)
              obtain ⟨b0, o0, R1, c1, hA0, hSb0, hel1, e0⟩ := zcj hM3 hrr1
              obtain ⟨b0', o0', R2, c2, hA0', _, hel2, e1⟩ := zcj hM3 hrr2
              rw [hA0] at hA0'
              cases hA0'
              subst hA0
              have el1 : (rawV r1).length = m := by rw [zbh]; exact HM.out.row r1 (List.mem_of_getElem? hr1)
              have el2 : (rawV r2).length = m := by rw [zbh]; exact HM.out.row r2 (List.mem_of_getElem? hr2)
              rw [el1] at e0 hel1
              rw [el2] at e1 hel2
              obtain ⟨x, hx, hrx⟩ := zfd (l := r1) (j := k) (by rw [← zbh, el1]; exact Hkm.out)
              obtain ⟨y, hy, hry⟩ := zfd (l := r2) (j := k) (by rw [← zbh, el2]; exact Hkm.out)
              obtain ⟨b1, o1, X1, X2, X3, X4, rfl, hSb1, helx, e2, e3, e4⟩ := zcs hel1 hrx
              obtain ⟨b2, o2, Y1, Y2, Y3, Y4, rfl, hSb2, hely, e5, e6, e7⟩ := zcs hel2 hry
              obtain ⟨x0, hx0⟩ : ∃ s, s = (raw x).neg := ⟨_, rfl⟩
              obtain ⟨x1, hx1⟩ : ∃ s, s = (raw x).num.length := ⟨_, rfl⟩
              obtain ⟨x2, hx2⟩ : ∃ s, s = (raw x).den.length := ⟨_, rfl⟩
              obtain ⟨y0, hy0⟩ : ∃ s, s = (raw y).neg := ⟨_, rfl⟩
              obtain ⟨y1, hy1⟩ : ∃ s, s = (raw y).num.length := ⟨_, rfl⟩
              obtain ⟨y2, hy2⟩ : ∃ s, s = (raw y).den.length := ⟨_, rfl⟩
              rw [← hx0] at e2
              rw [← hx1] at e3
              rw [← hx2] at e4
              rw [← hy0] at e5
              rw [← hy1] at e6
              rw [← hy2] at e7
              rw [← hx0, ← hx1, ← hx2] at helx
              rw [← hy0, ← hy1, ← hy2] at hely
              have E := Lib.hid (And.intro e0 (And.intro e1 (And.intro e2 (And.intro e3 (And.intro e4 (And.intro e5 (And.intro e6 e7)))))))
              have Qx := Lib.hid (IsQ.stb.to (isR_isQ helx) (zaz fun b hb => Nat.lt_of_lt_of_le hb.2 G7.out.size : Same _ (Old w3) w3 w3))
              have Qy := Lib.hid (IsQ.stb.to (isR_isQ hely) (zaz fun b hb => Nat.lt_of_lt_of_le hb.2 G7.out.size : Same _ (Old w3) w3 w3))
              obtain ⟨z, hz⟩ : ∃ z, z = x + y := ⟨_, rfl⟩
              have Hz := Lib.hid hz
              have Tx := Lib.hid (HM.out.num i1 r1 hr1 x (List.mem_of_getElem? hx))
              have Ty := Lib.hid (HM.out.num i2 r2 hr2 y (List.mem_of_getElem? hy))
              have Tz : Hid (Twelve (48 * 2 ^ i) z) := by
                rw [Hid, hz]
                refine (Tx.out.add Ty.out).le ?_
                have h1 : i1 = i2 + 1 := by omega
                rw [hi2e, h1, Nat.pow_succ, Nat.pow_succ]
                omega
              have hin5 : i ≤ 5 := by omega
              have p1 := pow_le5 (i := i1) (by omega)
              have p2 := pow_le5 (i := i2) (by omega)
              have Hsx : Hid (Sz x 100000) := (Tx.out.sz (by omega)).le (by omega)
              have Hsy : Hid (Sz y 100000) := (Ty.out.sz (by omega)).le (by omega)
              have hw1 : (i : Int) - 1 = (i1 : Int) := by omega
              have hw2 : (i : Int) - 2 = (i2 : Int) := by omega
              have hwr1 : IntKind.i64.wrap (i1 : Int) = (i1 : Int) := IntWalk.i64_in _ (by omega)
              have hwr2 : IntKind.i64.wrap (i2 : Int) = (i2 : Int) := IntWalk.i64_in _ (by omega)
              have hp1 : (0 : Int) ≤ (i1 : Int) := by omega
              have hp2 : (0 : Int) ≤ (i2 : Int) := by omega
              have hpk : (0 : Int) ≤ (k : Int) := by omega
              have hl1 : (i1 : Int) < (i : Int) := by omega
              have hl2 : (i2 : Int) < (i : Int) := by omega
              have hk9 : (k : Int) < (m : Int) := by omega
              have Hbb : Hid (b0 < w3.heap.size ∧ True) := ⟨World.block_lt_of_cell? w3 _ e0, trivial⟩
              have cr := zbn
              have Hnb : Hid ((b0 ≠ w2.heap.size ∧ b1 ≠ w2.heap.size) ∧ b2 ≠ w2.heap.size) := by have := hSb0.2; have := hSb1.2; have := hSb2.2; refine ⟨⟨?_, ?_⟩, ?_⟩ <;> omega
              have hnb := Hnb.out
              have hzg : w2.heap.size < w3.heap.size := by rw [Hz3.out, Hzx.out]; exact Nat.lt_succ_self _
              clear hr1 hr2 hrr1 hrr2 hx hy hrx hry helx hely hx0 hx1 hx2 hy0 hy1 hy2 hz hel1 hel2 el1 el2 hSb0 hSb1 hSb2 hM3 hMo GO3 hi1e hi2e p1 p2 hin5
              go_wp2_with fail
              have HS : Hid (∀ W : World, Below w3.heap.size w3 W → W.cell? ⟨b0, o0 + i1, none⟩ = some (.slice (some ⟨b1, o1, none⟩) m c1) ∧ W.cell? ⟨b0, o0 + i2, none⟩ = some (.slice (some ⟨b2, o2, none⟩) m c2) ∧ W.cell? ⟨b1, o1 + k * 3, none⟩ = some (.bool x0) ∧ W.cell? ⟨b1, o1 + k * 3 + 1, none⟩ = some (.slice X1 x1 X2) ∧ W.cell? ⟨b1, o1 + k * 3 + 2, none⟩ = some (.slice X3 x2 X4) ∧ W.cell? ⟨b2, o2 + k * 3, none⟩ = some (.bool y0) ∧ W.cell? ⟨b2, o2 + k * 3 + 1, none⟩ = some (.slice Y1 y1 Y2) ∧ W.cell? ⟨b2, o2 + k * 3 + 2, none⟩ = some (.slice Y3 y2 Y4)) := fun W hW => ⟨zab hW E.out.1, zab hW E.out.2.1, zab hW E.out.2.2.1, zab hW E.out.2.2.2.1, zab hW E.out.2.2.2.2.1, zab hW E.out.2.2.2.2.2.1, zab hW E.out.2.2.2.2.2.2.1, zab hW E.out.2.2.2.2.2.2.2⟩
              have D5 : Hid (∀ W : World, Below w3.heap.size w3 W → Calls Tryd.prog 31 #[.agg #[.bool x0, .slice X1 x1 X2, .slice X3 x2 X4], .agg #[.bool y0, .slice Y1 y1 Y2, .slice Y3 y2 Y4]] W (RetQ W z)) := fun W hW => raddq (IsQ.stb.next Qx.out hW) (IsQ.stb.next Qy.out hW) Hsx.out Hsy.out Hz.out
              go_region_held3 (fun w' => w'.cell? ⟨b0, o0 + i1, none⟩ = some (.slice (some ⟨b1, o1, none⟩) m c1) ∧ w'.cell? ⟨b0, o0 + i2, none⟩ = some (.slice (some ⟨b2, o2, none⟩) m c2) ∧ w'.cell? ⟨b1, o1 + k * 3, none⟩ = some (.bool x0) ∧ w'.cell? ⟨b1, o1 + k * 3 + 1, none⟩ = some (.slice X1 x1 X2) ∧ w'.cell? ⟨b1, o1 + k * 3 + 2, none⟩ = some (.slice X3 x2 X4) ∧ w'.cell? ⟨b2, o2 + k * 3, none⟩ = some (.bool y0) ∧ w'.cell? ⟨b2, o2 + k * 3 + 1, none⟩ = some (.slice Y1 y1 Y2) ∧ w'.cell? ⟨b2, o2 + k * 3 + 2, none⟩ = some (.slice Y3 y2 Y4))
                (first | exact HS.out _ (by (repeat (first | exact Below.refl _ _ | assumption | refine zae ?_ _ | refine zag ?_ | refine zaf ?_ ?_ _ _ _ | refine zaj ?_ (by omega) | refine zaa ?_ (by assumption))); (first | done | fail)) | exact ⟨zap (HS.out _ (by (repeat (first | exact Below.refl _ _ | assumption | refine zae ?_ _ | refine zag ?_ | refine zaf ?_ ?_ _ _ _ | refine zaj ?_ (by omega) | refine zaa ?_ (by assumption))); (first | done | fail))).1 (by omega), zap (HS.out _ (by (repeat (first | exact Below.refl _ _ | assumption | refine zae ?_ _ | refine zag ?_ | refine zaf ?_ ?_ _ _ _ | refine zaj ?_ (by omega) | refine zaa ?_ (by assumption))); (first | done | fail))).2.1 (by omega), zap (HS.out _ (by (repeat (first | exact Below.refl _ _ | assumption | refine zae ?_ _ | refine zag ?_ | refine zaf ?_ ?_ _ _ _ | refine zaj ?_ (by omega) | refine zaa ?_ (by assumption))); (first | done | fail))).2.2.1 (by omega), zap (HS.out _ (by (repeat (first | exact Below.refl _ _ | assumption | refine zae ?_ _ | refine zag ?_ | refine zaf ?_ ?_ _ _ _ | refine zaj ?_ (by omega) | refine zaa ?_ (by assumption))); (first | done | fail))).2.2.2.1 (by omega), zap (HS.out _ (by (repeat (first | exact Below.refl _ _ | assumption | refine zae ?_ _ | refine zag ?_ | refine zaf ?_ ?_ _ _ _ | refine zaj ?_ (by omega) | refine zaa ?_ (by assumption))); (first | done | fail))).2.2.2.2.1 (by omega), zap (HS.out _ (by (repeat (first | exact Below.refl _ _ | assumption | refine zae ?_ _ | refine zag ?_ | refine zaf ?_ ?_ _ _ _ | refine zaj ?_ (by omega) | refine zaa ?_ (by assumption))); (first | done | fail))).2.2.2.2.2.1 (by omega), zap (HS.out _ (by (repeat (first | exact Below.refl _ _ | assumption | refine zae ?_ _ | refine zag ?_ | refine zaf ?_ ?_ _ _ _ | refine zaj ?_ (by omega) | refine zaa ?_ (by assumption))); (first | done | fail))).2.2.2.2.2.2.1 (by omega), zap (HS.out _ (by (repeat (first | exact Below.refl _ _ | assumption | refine zae ?_ _ | refine zag ?_ | refine zaf ?_ ?_ _ _ _ | refine zaj ?_ (by omega) | refine zaa ?_ (by assumption))); (first | done | fail))).2.2.2.2.2.2.2 (by omega)⟩)
                (first
                  | (go_at_call 31; (with_reducible refine Calls.mono (D5.out _ (by (repeat (first | exact Below.refl _ _ | assumption | refine zae ?_ _ | refine zag ?_ | refine zaf ?_ ?_ _ _ _ | refine zaj ?_ (by omega) | refine zaa ?_ (by assumption))); (first | done | fail))) ?_); rintro e w5 ⟨⟨v5, rfl, hv5⟩, hb5⟩; have V5 := Lib.hid (IsQ.stb.old hv5); obtain ⟨s5, P5, k5, O5, l5, rfl, _, _, _⟩ := zam hv5; have hB5 : Below w3.heap.size w3 w5 := (by (repeat (first | exact Below.refl _ _ | assumption | refine zae ?_ _ | refine zag ?_ | refine zaf ?_ ?_ _ _ _ | refine zaj ?_ (by omega) | refine zaa ?_ (by assumption))); (first | done | fail)); have R5 := Lib.hid (R3.out.next hB5); obtain ⟨p0, p1, p2⟩ := zad R5.out; obtain ⟨f0, f1, f2⟩ := zaq R5.out))
              all_goals
                clear e0 e1 e2 e3 e4 e5 e6 e7
                have G5 := zat G7.out (zbf (row := some g) hB5)
                have hol := OwnS.own_lt OwnI.out
                have hS2 : ∀ b, S2 b → b < wi.heap.size := fun b hb => by obtain ⟨_, _, _, _, h4⟩ := OwnI.out; exact (h4 b hb).1
                have h3 := OwnI.out.grown IsR.stb (zat G2.out G3.out) fun b e => ⟨fun e' => by have := (hol b e').1; cases e; omega, fun hs => by have := hq.out.2.2 b hs; cases e; omega⟩
                have h5 := OwnS.step IsR.stb (T := (fun b => S2 b ∨ (w3.heap.size ≤ b ∧ b < w5.heap.size))) h3 hB5 (fun b h => .inl h) (fun b h => h)
                have gput : w5.grownBy (put3 w5 w2.heap.size (.bool s5) (.slice P5 (lim z.num.natAbs).length k5) (.slice O5 (lim z.den).length l5)) (some w2.heap.size) := zat (zat (zcf _ _ _ _) (zcf _ _ _ _)) (zcf _ _ _ _)
                have hown7 := h5.grown IsR.stb gput fun b e => ⟨fun e' => by have := (hol b e').2; cases e; omega, fun hs => by cases e; rcases hs with hs | hs; have := hS2 _ hs; omega; have := hs.1; omega⟩
                have hel7 := IsQ.stb.to hv5 (zbz (g := w2.heap.size) (a := .bool s5) (b := .slice P5 (lim z.num.natAbs).length k5) (c := .slice O5 (lim z.den).length l5) (T := (fun b => S2 b ∨ (w3.heap.size ≤ b ∧ b < w5.heap.size))) fun b hb => ⟨by have h1 : w3.heap.size ≤ b := hb.1; omega, .inr hb⟩)
                have hzo : wo.heap.size ≤ w2.heap.size := Nat.le_trans hzi hz2
                have G7 := Lib.hid (zcy (zcy (zcy G5 hzo 0 (.bool s5)) hzo 1 (.slice P5 (lim z.num.natAbs).length k5)) hzo 2 (.slice O5 (lim z.den).length l5))
                have hgw2 : g < w2.heap.size := Nat.lt_of_lt_of_le hgo hzo
                have D5 := D3.out.next hB5 D3.out.lt
                have D7 := Lib.hid (((D5.far (p := ⟨w2.heap.size, 0, none⟩) hgw2 (.bool s5)).far (p := ⟨w2.heap.size, 1, none⟩) hgw2 (.slice P5 (lim z.num.natAbs).length k5)).far (p := ⟨w2.heap.size, 2, none⟩) hgw2 (.slice O5 (lim z.den).length l5))
                have hbase7 := G7.out.size
                have hz3o : wo.heap.size ≤ w3.heap.size := by omega
                clear G5 h3 h5 gput D5
                go_wp2_with (at_builtin; refine wp_appS2 elR rfl _ _ rfl IsR.stb rfl rfl (by simp [World.setCell]) rfl hown7 hel7 rfl (by intro u hu; simp [Value.cells] at hu; rcases hu with rfl | rfl | rfl <;> rfl) (by rw [zbh]; omega) hbase7 ?_; intro v8 w8 hown8 hb8 hz8)
                go_roundw
                case rel =>
                  refine ⟨k + 1, (fun b => S2 b ∨ (w3.heap.size ≤ b ∧ b < w5.heap.size)), q ++ [z], Hkm.out, by go_num, grown_then G7.out hb8, D7.out.next hb8 hgo, by rw [Hid, rawV_snoc]; exact hown8, by simp [hql], fun y hy => ?_, fun b hb => by rcases hb with hb | hb; exact hq.out.2.2 b hb; exact Nat.le_trans hz3o hb.1⟩
                  rcases List.mem_append.1 hy with h | h
                  · exact hq.out.2.1 y h
                  · rw [List.mem_singleton.1 h]; exact Tz.out
                case measure => have := Hkm.out; simp [intOf]; omega
            · have hy' : ¬ (y = 0) := hy
              have hown7 : OwnS 3 50 IsR w3 wo.heap.size (fun b => S2 b ∨ (wi.heap.size ≤ b ∧ b < w3.heap.size)) _ (rawV q) := OwnS.drawn IsR.stb OwnI.out hq.out.2.2 (zat G2.out G3.out) hgo
              have hel7 := IsQ.stb.to V3.out (zaz (T := (fun b => S2 b ∨ (wi.heap.size ≤ b ∧ b < w3.heap.size))) fun b h => .inr h)
              have hbase7 : wo.heap.size ≤ w3.heap.size := G7.out.size
              have D7 := D3
              have TWW : Hid (Twelve (48 * 2 ^ i) x') := T2.out.le (by have := Nat.one_le_two_pow (n := i); omega)
              go_wp2_with (at_builtin; refine zcx elR rfl _ _ rfl IsR.stb rfl rfl rfl hown7 hel7 rfl (by intro u hu; simp [Value.cells] at hu; rcases hu with rfl | rfl | rfl <;> rfl) (by rw [zbh]; omega) hbase7 ?_; intro v8 w8 hown8 hb8 hz8)
              go_roundw
              case rel =>
                refine ⟨k + 1, (fun b => S2 b ∨ (wi.heap.size ≤ b ∧ b < w3.heap.size)), q ++ [x'], Hkm.out, by go_num, grown_then G7.out hb8, D7.out.next hb8 hgo, by rw [Hid, rawV_snoc]; exact hown8, by simp [hql], fun y hy => ?_, fun b hb => by rcases hb with hb | hb; exact hq.out.2.2 b hb; exact Nat.le_trans hzi hb.1⟩
                rcases List.mem_append.1 hy with h | h
                · exact hq.out.2.1 y h
                · rw [List.mem_singleton.1 h]; exact TWW.out
              case measure => have := Hkm.out; simp [intOf]; omega
          · have hi1' : ¬ ((1 : Int) < (i : Int)) := by omega
            have hown7 := hown2.out
            have hel7 := IsQ.stb.to V2.out (zaz (T := (fun b => S2 b ∨ (wi.heap.size ≤ b ∧ b < wx.heap.size))) fun b h => .inr h)
            have hbase7 : wo.heap.size ≤ wx.heap.size := Nat.le_trans hzi G2.out.size
            have D7 := D2
            have G7 := Lib.hid (zat GI.out G2.out)
            have TWW : Hid (Twelve (48 * 2 ^ i) x') := T2.out.le (by have := Nat.one_le_two_pow (n := i); omega)
            go_wp2_with (at_builtin; refine zcx elR rfl _ _ rfl IsR.stb rfl rfl rfl hown7 hel7 rfl (by intro u hu; simp [Value.cells] at hu; rcases hu with rfl | rfl | rfl <;> rfl) (by rw [zbh]; omega) hbase7 ?_; intro v8 w8 hown8 hb8 hz8)
            go_roundw
            case rel =>
              refine ⟨k + 1, (fun b => S2 b ∨ (wi.heap.size ≤ b ∧ b < wx.heap.size)), q ++ [x'], Hkm.out, by go_num, grown_then G7.out hb8, D7.out.next hb8 hgo, by rw [Hid, rawV_snoc]; exact hown8, by simp [hql], fun y hy => ?_, fun b hb => by rcases hb with hb | hb; exact hq.out.2.2 b hb; exact Nat.le_trans hzi hb.1⟩
              rcases List.mem_append.1 hy with h | h
              · exact hq.out.2.1 y h
              · rw [List.mem_singleton.1 h]; exact TWW.out
            case measure => have := Hkm.out; simp [intOf]; omega
        · obtain rfl : k = m := by omega
          have hlt : ¬ k < k := by omega
          obtain ⟨L, cL, hL⟩ := OwnI.out.slice
          subst hL
          have hown := OwnS.drawn IsV.stb Own.out HS.out GI.out hgw
          have hel := OwnS.isS IsR.stb (T := fun b => S b ∨ (wo.heap.size ≤ b ∧ b < wi.heap.size)) OwnI.out (fun b hb => .inr ⟨hq.out.2.2 b hb, by obtain ⟨_, _, _, _, h4⟩ := OwnI.out; exact (h4 b hb).1⟩) (fun b h1 h2 => .inr ⟨h1, h2⟩)
          have hbase : w.heap.size ≤ wi.heap.size := Nat.le_trans G.out.size GI.out.size
          have hMl := HM.out.len
          go_wp2_with (at_builtin; refine zcx elV rfl _ _ rfl IsV.stb rfl rfl rfl hown hel rfl (by intro u hu; simp [Value.cells] at hu; subst hu; rfl) (by rw [zda]; omega) hbase ?_; intro v8 w8 hown8 hb8 hz8)
          go_roundw
          case rel =>
            refine ⟨i + 1, fun b => S b ∨ (wo.heap.size ≤ b ∧ b < wi.heap.size), M ++ [q], Hlt.out, by go_num, grown_then (zat G.out GI.out) hb8, DI.out.next hb8 hgw, by rw [Hid, rawM_one]; exact hown8, HM.out.snoc hql hq.out.2.1, fun b hb => by rcases hb with hb | hb; exact HS.out b hb; exact Nat.le_trans G.out.size hb.1⟩
          case measure => have := Hlt.out; simp [intOf]; omega
    · obtain rfl : i = n := by omega
      have hlt : ¬ i < i := by omega
      have hV : IsM wo (New w.heap.size wo) _ (rawM M) := OwnS.isS IsV.stb (T := New w.heap.size wo) Own.out (fun b hb => ⟨HS.out b hb, by obtain ⟨_, _, _, _, h4⟩ := Own.out; exact (h4 b hb).1⟩) (fun b h1 h2 => ⟨h1, h2⟩)
      have HV := Lib.hid hV
      clear hV
      go_wp2_with fail
      go_ret
      exact ⟨⟨_, _, rfl, HV.out, M, rfl, HM.out⟩, D.out, G.out⟩
theorem sumP_from (l : List (Rat × Rat)) : ∀ s : Rat, l.foldl (fun s p => s + p.1 * p.2) s = s + sumP l := by
  induction l with
  | nil => intro s; simp only [List.foldl_nil, sumP]; grind
  | cons p l ih =>
    intro s
    have h1 := ih (s + p.1 * p.2)
    have h2 := ih (0 + p.1 * p.2)
    simp only [sumP, List.foldl_cons] at h1 h2 ⊢
    rw [h1, h2]
    grind
theorem dotQ_cons (x y : Rat) (a b : List Rat) : dotQ (x :: a) (y :: b) = x * y + dotQ a b := by
  have h := sumP_from (a.zip b) (0 + x * y)
  unfold dotQ
  rw [List.zip_cons_cons]
  simp only [sumP, List.foldl_cons] at h ⊢
  rw [h]
  grind
theorem dotQ_little {a b : List Rat} {k : Nat} (hl : a.length ≤ 5) (ha : ∀ q ∈ a, Sz q k) (hb : ∀ q ∈ b, Sz q k) (hk : k ≤ 90) : Sz (dotQ a b) 1024 := by
  refine (sumP_sz (n := k) fun p hp => ⟨ha _ (List.of_mem_zip hp).1, hb _ (List.of_mem_zip hp).2⟩).le ?_
  have h1 : (a.zip b).length ≤ 5 := by rw [List.length_zip]; omega
  have h2 := Nat.mul_le_mul h1 (show 2 * k + 1 ≤ 181 by omega)
  omega
def zex (M : List (List Rat)) (x : List Rat) : List Rat := M.map fun r => dotQ r x
theorem applyQ_len (M : List (List Rat)) (x : List Rat) : (zex M x).length = M.length := List.length_map _
theorem applyQ_at {M : List (List Rat)} {x r : List Rat} {k : Nat} (h : M[k]? = some r) : (zex M x)[k]? = some (dotQ r x) := by
  unfold zex
  rw [List.getElem?_map, h]
  rfl
set_option maxRecDepth 100000 in
set_option maxHeartbeats 4000000 in
theorem vApply_good {w : World} {v vx : Value} {M : List (List Rat)} {x : List Rat} {n m : Nat} (h : IsM w (Old w) v (rawM M)) (hx : IsV w (Old w) vx (rawV x)) (hB : Bru w) (hn : M.length = n) (hrow : ∀ r ∈ M, r.length = m) (hn1 : 1 ≤ n) (hn9 : n ≤ 40) (hm9 : m ≤ 40) (hxl : x.length = m) (hf : chkM (rawM M) = 0) (hfx : chkV (rawV x) = 0) (hs : ∀ r ∈ M, ∀ q ∈ r, Sz q 1024) (hsx : ∀ q ∈ x, Sz q 1024) (hfit : ∀ q ∈ zex M x, Sz q 1024) :
    Calls Tryd.prog 28 #[v, vx] w fun e w' => (∃ v', e = .returned (.tuple #[v', .int .i64 0]) ∧ IsV w' (Old w') v' (rawV (zex M x))) ∧ Below w.heap.size w w' := by
  have HM := Lib.hid h
  have HX := Lib.hid hx
  have HF := Lib.hid hf
  have HFX := Lib.hid hfx
  have HB := Lib.hid hB
  have Hs := Lib.hid hs
  have Hsx := Lib.hid hsx
  have Hrow := Lib.hid hrow
  have Hfit := Lib.hid hfit
  have Hn := Lib.hid hn
  have Hxl := Lib.hid hxl
  have hcol := Lib.hid (col_head hn hn1 hrow)
  obtain ⟨A, cA, rfl, _⟩ := zdk h
  obtain ⟨X, cX, rfl, _⟩ := zcb hx
  have eln : (rawM M).length = n := by rw [zda]; exact hn
  have elx : (rawV x).length = m := by rw [zbh]; exact hxl
  rw [eln] at HM
  rw [elx] at HX
  rw [eln, elx]
  clear h hx hf hfx hB hs hsx hrow hfit hn hxl eln elx
  go_enter Tryd.func28, Tryd.ntmps28
  go_wp2_with fail
  refine (form_l HM.out HB.out).mono ?_
  rw [HF.out]
  rintro e w1 ⟨rfl, hb1⟩
  have HB1 := Lib.hid hb1
  clear hb1
  go_wp2_with fail
  refine (vcheck_l (IsV.stb.next HX.out HB1.out) (Bru.next HB.out HB1.out)).mono ?_
  rw [HFX.out]
  rintro e w2 ⟨rfl, hb2⟩
  have HB2 := Lib.hid (zaa HB1.out hb2)
  have hn0 : (0 : Int) < (n : Int) := by omega
  clear hb2
  go_wp2_with fail
  refine (columns_l (IsM.stb.next HM.out HB2.out)).mono ?_
  rw [hcol.out]
  rintro e w2' ⟨rfl, rfl⟩
  go_wp2_with (at_make; refine zfk elR rfl _ _ rfl IsR n rfl rfl rfl (by omega) (base := w2.heap.size) (S := fun _ => False) (Nat.le_refl _) (fun b h => h.elim) ?_; intro v3 w3 hown3 hb3 hz3)
  have HB3 := Lib.hid (zaa HB2.out hb3)
  have Hown3 := Lib.hid hown3
  have Hz3 : Hid (w2.heap.size ≤ w3.heap.size) := hz3
  clear hb3 hown3 hz3 hn0
  go_loopw [36, 8, 10] (fun i ov _ wr => ∃ (k : Nat) (S : Nat → Prop), k ≤ n ∧ i = .int .i64 (k : Int) ∧ Below w.heap.size w wr ∧ Hid (OwnS 3 50 IsR wr w2.heap.size S ov (rawV ((zex M x).take k))) ∧ Hid (∀ b, S b → w2.heap.size ≤ b) ∧ Hid (w2.heap.size ≤ wr.heap.size)) (fun i _ _ _ => n - (intOf i).toNat)
  case atStart => exact ⟨0, fun _ => False, Nat.zero_le _, rfl, HB3.out, by simpa [rawV, Hid] using Hown3.out, fun b hb => hb.elim, Hz3.out⟩
  case round =>
    obtain ⟨k, S, hk, rfl, hbw, hrel, hS, hzw⟩ := hrel
    have Hbw := Lib.hid hbw
    have Hown := Lib.hid hrel.out
    have HS1 := Lib.hid hS.out
    have hszw := hbw.size
    clear hrel hS
    rcases Nat.lt_or_ge k n with hlt | hge
    · obtain ⟨r, hr, hrr⟩ := rawM_get (m := M) (j := k) (by rw [Hn.out]; exact hlt)
      obtain ⟨b1, o1, R, cR, rfl, hSb1, helr, c0⟩ := zcj HM.out hrr
      have elr : (rawV r).length = m := by rw [zbh]; exact Hrow.out r (List.mem_of_getElem? hr)
      rw [elr] at c0 helr
      replace c0 := hbw.cell (p := ⟨b1, o1 + k, none⟩) hSb1 |>.trans c0
      have Vr := Lib.hid (IsV.stb.to helr (zax hbw))
      have Vx := Lib.hid (IsV.stb.next HX.out hbw)
      have HR := Lib.hid (List.mem_of_getElem? hr)
      have Hend : Hid ((zex M x)[k]? = some (dotQ r x)) := applyQ_at hr
      have hk0 : (0 : Int) ≤ (k : Int) := by omega
      have hk1 : (k : Int) < (n : Int) := by omega
      have Hhlt := Lib.hid hlt
      clear hr hrr helr elr hbw hSb1 hlt
      go_wp2_with fail
      refine (vdot_q (M := m) Vr.out Vx.out (Bru.next HB.out Hbw.out) (Hrow.out r HR.out) Hxl.out hm9 (Hs.out r HR.out) Hsx.out).mono ?_
      rintro e w5 ⟨⟨v5, rfl, hv5⟩, hb5⟩
      obtain ⟨s5, P5, k5, O5, l5, rfl, _, _, _⟩ := zam hv5
      have hown5 := OwnS.step IsR.stb (T := fun b => S b ∨ (wr.heap.size ≤ b ∧ b < w5.heap.size)) Hown.out hb5 (fun b h => .inl h) (fun b h => h)
      have hel5 := IsQ.stb.to hv5 (zaz (T := fun b => S b ∨ (wr.heap.size ≤ b ∧ b < w5.heap.size)) fun b h => .inr h)
      have HB5 := Lib.hid (zaa Hbw.out hb5)
      have hbase : w2.heap.size ≤ w5.heap.size := Nat.le_trans hzw.out hb5.size
      have hlt := Hhlt.out
      clear hb5 hv5 c0
      go_wp2_with (at_builtin; refine zcx elR rfl _ _ rfl IsR.stb rfl rfl rfl hown5 hel5 rfl (by intro u hu; simp [Value.cells] at hu; rcases hu with rfl | rfl | rfl <;> rfl) (by have h1 := List.length_take_le k (zex M x); rw [zbh]; omega) hbase ?_; intro v6 w6 hown6 hb6 hz6)
      go_roundw
      case rel =>
        refine ⟨k + 1, fun b => S b ∨ (wr.heap.size ≤ b ∧ b < w5.heap.size), hlt, by go_num, HB5.out.trans (hb6.mono HB2.out.size), ?_, fun b hb => by rcases hb with hb | hb; exact HS1.out b hb; exact Nat.le_trans hzw.out hb.1, by rw [Hid]; omega⟩
        rw [zeu Hend.out, rawV_snoc]
        exact hown6
      case measure => simp [intOf]; omega
    · obtain rfl : k = n := by omega
      have e : (zex M x).take k = zex M x := List.take_of_length_le (by rw [applyQ_len, Hn.out]; exact Nat.le_refl _)
      rw [e] at Hown
      have hV : IsV wr (Old wr) _ (rawV (zex M x)) := OwnS.isS IsR.stb (T := Old wr) Hown.out (fun b hb => by obtain ⟨_, _, _, _, h4⟩ := Hown.out; exact (h4 b hb).1) (fun b h1 h2 => h2)
      have HVV := Lib.hid hV
      clear hV e hbw
      go_wp2_with fail
      refine (bounded_l HVV.out).mono ?_
      rw [bndV_ok Hfit.out]
      rintro e w9 ⟨rfl, hb9⟩
      have HB9 := Lib.hid (zaa Hbw.out hb9)
      have V9 := Lib.hid (IsV.stb.next HVV.out hb9)
      clear hb9
      go_wp2_with fail
      go_ret2
      exact ⟨⟨_, rfl, V9.out⟩, HB9.out⟩
theorem sumN_front (n : Nat) (f : Nat → Rat) : sumN (n + 1) f = f 0 + sumN n fun i => f (i + 1) := by
  induction n with
  | zero => simp only [sumN]; grind
  | succ n ih => rw [sumN, ih, sumN]; grind
theorem dotQ_sum (a : List Rat) : ∀ b : List Rat, a.length = b.length → dotQ a b = sumN a.length fun j => a.getD j 0 * b.getD j 0 := by
  induction a with
  | nil => intro b _; rfl
  | cons x a ih =>
    intro b h
    cases b with
    | nil => simp at h
    | cons y b =>
      rw [dotQ_cons, ih b (by simpa using h), List.length_cons, sumN_front]
      rfl
theorem sumN_swap (n p : Nat) (f : Nat → Nat → Rat) : sumN n (fun j => sumN p fun l => f j l) = sumN p fun l => sumN n fun j => f j l := by
  induction n with
  | zero => exact (sumN_zero fun i _ => rfl).symm
  | succ n ih =>
    rw [sumN, ih]
    have e : (sumN p fun l => sumN (n + 1) fun j => f j l) = sumN p fun l => (sumN n fun j => f j l) + f n l := zcg fun l _ => rfl
    rw [e, sumN_add]
theorem atQ_in {A : Nat → Nat → Int} {np d i j : Nat} (h : i < np) : atQ A np d i j = mkRat (A i j) d := if_pos h
theorem atQ_out {A : Nat → Nat → Int} {np d i j : Nat} (h : ¬ i < np) : atQ A np d i j = 0 := if_neg h
theorem mk_div {a : Int} {d : Nat} (hd : 0 < d) : mkRat a d = (a : Rat) / ((d : Int) : Rat) := by rw [Rat.mkRat_eq_div]; rfl
theorem cast_ne {d : Nat} (hd : 0 < d) : ((d : Int) : Rat) ≠ 0 := by
  intro e
  have : (d : Int) = 0 := Rat.intCast_inj.1 (by rw [e]; rfl)
  omega
theorem rowQ_at {A : Nat → Nat → Int} {np d i k0 cnt j : Nat} (h : j < cnt) : (rowQ A np d i k0 cnt).getD j 0 = atQ A np d i (k0 + j) := by
  unfold rowQ
  rw [List.getD_eq_getElem?_getD, List.getElem?_map, List.getElem?_range h]
  rfl
section
variable {n m : Nat} {A0 : Nat → Nat → Int} {s : RS} {Ms : Nat → Nat → Int}
theorem Elim.unit (h : Elim n m A0 m s Ms) {i t : Nat} (ht : t < s.piv.length) : atQ s.A s.piv.length s.d i (s.piv.getD t 0) = if i = t then 1 else 0 := by
  by_cases hi : i < s.piv.length
  · rw [atQ_in hi, h.dia i t hi ht, mk_div h.d0]
    by_cases e : i = t
    · rw [if_pos e, if_pos e, Rat.div_def, Rat.mul_inv_cancel _ (cast_ne h.d0)]
    · rw [if_neg e, if_neg e]
      show ((0 : Int) : Rat) / _ = 0
      rw [Rat.div_def]
      show (0 : Rat) * _ = 0
      grind
  · rw [atQ_out hi, if_neg (by omega)]
theorem Elim.low (h : Elim n m A0 m s Ms) {i x : Nat} (hi : i < s.piv.length) (hx : x < s.piv.getD i 0) : atQ s.A s.piv.length s.d i x = 0 := by
  rw [atQ_in hi, h.left i hi x hx, Rat.zero_mkRat]
theorem Elim.sum (h : Elim n m A0 m s Ms) {i x : Nat} (hi : i < n) (hx : x < m) : (A0 i x : Rat) = sumN s.piv.length fun l => (A0 i (s.piv.getD l 0) : Rat) * atQ s.A s.piv.length s.d l x := by
  have e := h.whole (Nat.le_refl m) hi hx (.inl hx)
  have hd := cast_ne h.d0
  have e2 : (sumN s.piv.length fun l => (A0 i (s.piv.getD l 0) : Rat) * (s.A l x : Rat)) = ((s.d : Int) : Rat) * sumN s.piv.length fun l => (A0 i (s.piv.getD l 0) : Rat) * atQ s.A s.piv.length s.d l x := by
    rw [← zdj]
    refine zcg fun l hl => ?_
    rw [atQ_in hl, mk_div h.d0]
    have := Rat.div_mul_cancel (a := (s.A l x : Rat)) hd
    grind
  rw [e2] at e
  have h3 : ((s.d : Int) : Rat)⁻¹ * (((s.d : Int) : Rat) * (A0 i x : Rat)) = ((s.d : Int) : Rat)⁻¹ * (((s.d : Int) : Rat) * sumN s.piv.length fun l => (A0 i (s.piv.getD l 0) : Rat) * atQ s.A s.piv.length s.d l x) := by rw [e]
  have h4 := Rat.mul_inv_cancel _ hd
  grind
end
theorem lift_cast {b : List (List Rat)} {i j : Nat} {r : List Rat} {x : Rat} (hr : b[i]? = some r) (hx : r[j]? = some x) : ((zcw b i j : Int) : Rat) = x * ((zej r : Nat) : Rat) := by
  rw [liftM_at hr hx, Rat.intCast_mul]
  have hd : x.den ∣ zej r := lcmTo_dvd (List.mem_of_getElem? hx)
  obtain ⟨c, hc⟩ := hd
  have h1 : zej r / x.den = c := by rw [hc]; exact Nat.mul_div_cancel_left c x.den_pos
  rw [h1, hc, Rat.natCast_mul]
  have h2 : (x.num : Rat) = x * ((x.den : Nat) : Rat) := by
    have h3 := Rat.mkRat_self x
    rw [Rat.mkRat_eq_div] at h3
    have h4 : ((x.den : Nat) : Rat) ≠ 0 := cast_ne x.den_pos
    have h5 := Rat.div_mul_cancel (a := (x.num : Rat)) h4
    rw [h3] at h5
    exact h5.symm
  rw [h2]
  show x * _ * ((c : Nat) : Rat) = _
  grind
theorem form_sum {n m : Nat} {b : List (List Rat)} {s : RS} {Ms : Nat → Nat → Int} (h : Elim n m (zcw b) m s Ms) (hn : b.length = n) (hrow : ∀ r ∈ b, r.length = m) {i x : Nat} {r : List Rat} (hr : b[i]? = some r) (hx : x < m) :
    r.getD x 0 = sumN s.piv.length fun l => r.getD (s.piv.getD l 0) 0 * atQ s.A s.piv.length s.d l x := by
  have hi : i < n := by rw [← hn]; exact (List.getElem?_eq_some_iff.1 hr).1
  have hl : r.length = m := hrow r (List.mem_of_getElem? hr)
  have at_ : ∀ y, y < m → r[y]? = some (r.getD y 0) := fun y hy => by rw [List.getD_eq_getElem?_getD, List.getElem?_eq_getElem (by omega)]; rfl
  have hL : ((zej r : Nat) : Rat) ≠ 0 := cast_ne (lcmTo_pos r)
  have e := h.sum hi hx
  rw [lift_cast hr (at_ x hx)] at e
  have e2 : (sumN s.piv.length fun l => (zcw b i (s.piv.getD l 0) : Rat) * atQ s.A s.piv.length s.d l x) = ((zej r : Nat) : Rat) * sumN s.piv.length fun l => r.getD (s.piv.getD l 0) 0 * atQ s.A s.piv.length s.d l x := by
    rw [← zdj]
    refine zcg fun l hl' => ?_
    rw [lift_cast hr (at_ _ (h.lt l hl'))]
    grind
  rw [e2] at e
  have h4 := Rat.mul_inv_cancel _ hL
  have h5 : (r.getD x 0 * ((zej r : Nat) : Rat)) * ((zej r : Nat) : Rat)⁻¹ = (((zej r : Nat) : Rat) * sumN s.piv.length fun l => r.getD (s.piv.getD l 0) 0 * atQ s.A s.piv.length s.d l x) * ((zej r : Nat) : Rat)⁻¹ := by rw [e]
  grind
theorem kerTo_at {n m : Nat} {A0 : Nat → Nat → Int} {s : RS} {Ms : Nat → Nat → Int} (h : Elim n m A0 m s Ms) {f : Nat} (hf : f < m) (hfp : f ∉ s.piv) : ∀ u, u ≤ s.piv.length → ∀ j, j < m →
    (zde s m f u).getD j 0 = (if j = f then 1 else 0) - sumN u fun t => if j = s.piv.getD t 0 then atQ s.A s.piv.length s.d t f else 0 := by
  intro u
  induction u with
  | zero =>
    intro _ j hj
    rw [zde, List.getD_eq_getElem?_getD, List.getElem?_set]
    by_cases e : f = j
    · rw [if_pos e, if_pos (by simpa using by omega), if_pos e.symm]; simp only [sumN, Option.getD_some]; grind
    · rw [if_neg e, if_neg (Ne.symm e), List.getElem?_replicate, if_pos hj]; simp only [sumN, Option.getD_some]; grind
  | succ u ih =>
    intro hu j hj
    have ih' := ih (by omega) j hj
    have hpm : s.piv.getD u 0 < m := h.lt u (by omega)
    have hpf : s.piv.getD u 0 ≠ f := fun e => hfp (by rw [← e, List.getD_eq_getElem?_getD, List.getElem?_eq_getElem (by omega)]; exact List.getElem_mem _)
    rw [zde, List.getD_eq_getElem?_getD, List.getElem?_set, sumN]
    by_cases e : s.piv.getD u 0 = j
    · rw [if_pos e, if_pos (by rw [kerTo_len]; omega), if_pos e.symm, Option.getD_some, if_neg (fun e2 => hpf (e.trans e2)), sumN_zero fun t ht => ?_]
      · grind
      · refine if_neg fun e2 => ?_
        have := h.asc t u ht (by omega)
        omega
    · rw [if_neg e, if_neg (Ne.symm e), ← List.getD_eq_getElem?_getD, ih']
      grind
theorem form_ker {n m : Nat} {A0 : Nat → Nat → Int} {s : RS} {Ms : Nat → Nat → Int} (h : Elim n m A0 m s Ms) {f : Nat} (hf : f < m) (hfp : f ∉ s.piv) (i : Nat) :
    (sumN m fun j => atQ s.A s.piv.length s.d i j * (zde s m f s.piv.length).getD j 0) = 0 := by
  have e1 : (sumN m fun j => atQ s.A s.piv.length s.d i j * (zde s m f s.piv.length).getD j 0) = sumN m fun j => (atQ s.A s.piv.length s.d i j * (if j = f then 1 else 0)) + (-1) * sumN s.piv.length fun t => atQ s.A s.piv.length s.d i j * (if j = s.piv.getD t 0 then atQ s.A s.piv.length s.d t f else 0) := by
    refine zcg fun j hj => ?_
    rw [kerTo_at h hf hfp _ (Nat.le_refl _) j hj, zdj]
    grind
  rw [e1, sumN_add, zdj, sumN_swap, sumN_one hf fun j _ hne => by rw [if_neg hne]; grind]
  have e2 : (sumN s.piv.length fun t => sumN m fun j => atQ s.A s.piv.length s.d i j * (if j = s.piv.getD t 0 then atQ s.A s.piv.length s.d t f else 0)) = sumN s.piv.length fun t => (if i = t then 1 else 0) * atQ s.A s.piv.length s.d t f := by
    refine zcg fun t ht => ?_
    rw [sumN_one (h.lt t ht) fun j _ hne => by rw [if_neg hne]; grind, if_pos rfl, h.unit ht]
  rw [e2, if_pos rfl]
  by_cases hi : i < s.piv.length
  · rw [sumN_one hi fun j _ hne => by rw [if_neg (Ne.symm hne)]; grind, if_pos rfl]
    grind
  · rw [sumN_zero fun t ht => by rw [if_neg (by omega)]; grind, atQ_out hi]
    grind
theorem kerQ_mem {s : RS} {m : Nat} : ∀ k, ∀ r ∈ kerQ s m k, ∃ f, f < k ∧ f ∉ s.piv ∧ r = zde s m f s.piv.length := by
  intro k
  induction k with
  | zero => intro r hr; cases hr
  | succ k ih =>
    intro r hr
    by_cases h : k ∈ s.piv
    · rw [kerQ_in h] at hr
      obtain ⟨f, h1, h2⟩ := ih r hr
      exact ⟨f, by omega, h2⟩
    · rw [kerQ_out h] at hr
      rcases List.mem_append.1 hr with hr | hr
      · obtain ⟨f, h1, h2⟩ := ih r hr
        exact ⟨f, by omega, h2⟩
      · exact ⟨k, Nat.lt_succ_self _, h, List.mem_singleton.1 hr⟩
theorem sum_ker {n m : Nat} {A0 : Nat → Nat → Int} {s : RS} {Ms : Nat → Nat → Int} (h : Elim n m A0 m s Ms) {f : Nat} (hf : f < m) (hfp : f ∉ s.piv) {r : List Rat} (hl : r.length = m) {c : Nat → Rat} {p : Nat} (hr : ∀ j, j < m → r.getD j 0 = sumN p fun l => c l * atQ s.A s.piv.length s.d l j) : dotQ r (zde s m f s.piv.length) = 0 := by
  rw [dotQ_sum r _ (by rw [hl, kerTo_len]), hl]
  have e1 : (sumN m fun j => r.getD j 0 * (zde s m f s.piv.length).getD j 0) = sumN m fun j => sumN p fun l => c l * (atQ s.A s.piv.length s.d l j * (zde s m f s.piv.length).getD j 0) := by
    refine zcg fun j hj => ?_
    rw [hr j hj]
    have : (zde s m f s.piv.length).getD j 0 * (sumN p fun l => c l * atQ s.A s.piv.length s.d l j) = sumN p fun l => (zde s m f s.piv.length).getD j 0 * (c l * atQ s.A s.piv.length s.d l j) := (zdj _ _ _).symm
    rw [Rat.mul_comm, this]
    exact zcg fun l _ => by grind
  rw [e1, sumN_swap]
  refine sumN_zero fun l _ => ?_
  rw [zdj, form_ker h hf hfp l]
  grind
theorem apply_ker {n m : Nat} {b : List (List Rat)} {s : RS} {Ms : Nat → Nat → Int} (h : Elim n m (zcw b) m s Ms) (hn : b.length = n) (hrow : ∀ r ∈ b, r.length = m) {x : List Rat} (hx : x ∈ kerQ s m m) : zex b x = List.replicate n 0 := by
  obtain ⟨f, hf, hfp, rfl⟩ := kerQ_mem m x hx
  rw [List.eq_replicate_iff]
  refine ⟨by rw [applyQ_len, hn], fun q hq => ?_⟩
  obtain ⟨r, hr, rfl⟩ := List.mem_map.1 hq
  obtain ⟨i, hi⟩ := List.getElem?_of_mem hr
  exact sum_ker h hf hfp (hrow r hr) fun j hj => form_sum h hn hrow hi hj
theorem formTo_row {s : RS} {m k : Nat} : ∀ r ∈ zcu s m k, r.length = m := fun r hr => by
  obtain ⟨i, _, rfl⟩ := List.mem_map.1 hr
  exact zdi _ _ _ _ _ _
theorem apply_form {n m k : Nat} {A0 : Nat → Nat → Int} {s : RS} {Ms : Nat → Nat → Int} (h : Elim n m A0 m s Ms) {x : List Rat} (hx : x ∈ kerQ s m m) : zex (zcu s m k) x = List.replicate k 0 := by
  obtain ⟨f, hf, hfp, rfl⟩ := kerQ_mem m x hx
  rw [List.eq_replicate_iff]
  refine ⟨by rw [applyQ_len, formTo_len], fun q hq => ?_⟩
  obtain ⟨r, hr, rfl⟩ := List.mem_map.1 hq
  obtain ⟨i, hi, rfl⟩ := List.mem_map.1 hr
  refine sum_ker h hf hfp (zdi _ _ _ _ _ _) (p := i + 1) (c := fun l => if l = i then 1 else 0) fun j hj => ?_
  rw [rowQ_at hj, Nat.zero_add, sumN_one (Nat.lt_succ_self i) fun l _ hne => by rw [if_neg hne]; grind, if_pos rfl]
  grind
theorem kerQ_count (s : RS) (m : Nat) (hnd : s.piv.Nodup) : ∀ k, (kerQ s m k).length + (s.piv.filter fun p => decide (p < k)).length = k := by
  intro k
  induction k with
  | zero =>
    have : (s.piv.filter fun p => decide (p < 0)) = [] := List.filter_eq_nil_iff.2 fun p _ => by simp
    rw [this]; rfl
  | succ k ih =>
    have key : ∀ l : List Nat, l.Nodup → (l.filter fun p => decide (p < k + 1)).length = (l.filter fun p => decide (p < k)).length + if k ∈ l then 1 else 0 := by
      intro l
      induction l with
      | nil => intro _; rfl
      | cons a l ihl =>
        intro hl
        obtain ⟨h1, h2⟩ := List.nodup_cons.1 hl
        have := ihl h2
        simp only [List.filter_cons, decide_eq_true_eq, List.mem_cons]
        by_cases e : a = k
        · subst e
          rw [if_pos (by omega), if_neg (by omega), List.length_cons, this, if_neg h1, if_pos (.inl rfl)]
        · by_cases e2 : a < k
          · rw [if_pos (by omega), if_pos e2, List.length_cons, List.length_cons, this]
            by_cases e3 : k ∈ l
            · rw [if_pos e3, if_pos (.inr e3)]
            · rw [if_neg e3, if_neg (by rintro (h | h); omega; exact e3 h)]
          · rw [if_neg (by omega), if_neg e2, this]
            by_cases e3 : k ∈ l
            · rw [if_pos e3, if_pos (.inr e3)]
            · rw [if_neg e3, if_neg (by rintro (h | h); omega; exact e3 h)]
    rw [key s.piv hnd]
    by_cases h : k ∈ s.piv
    · rw [kerQ_in h, if_pos h]; omega
    · rw [kerQ_out h, if_neg h, List.length_append, List.length_singleton]; omega
theorem Elim.nodup {n m k : Nat} {A0 : Nat → Nat → Int} {s : RS} {Ms : Nat → Nat → Int} (h : Elim n m A0 k s Ms) : s.piv.Nodup := by
  rw [List.nodup_iff_pairwise_ne, List.pairwise_iff_getElem]
  intro i j hi hj hij
  have := h.asc i j hij hj
  rw [List.getD_eq_getElem?_getD, List.getD_eq_getElem?_getD, List.getElem?_eq_getElem hi, List.getElem?_eq_getElem hj] at this
  simp only [Option.getD_some] at this
  omega
theorem ker_count {n m : Nat} {A0 : Nat → Nat → Int} {s : RS} {Ms : Nat → Nat → Int} (h : Elim n m A0 m s Ms) : s.piv.length + (kerQ s m m).length = m := by
  have h1 := kerQ_count s m h.nodup m
  have h2 : (s.piv.filter fun p => decide (p < m)) = s.piv := List.filter_eq_self.2 fun p hp => by
    obtain ⟨l, hl, rfl⟩ := List.getElem_of_mem hp
    have := h.lt l hl
    rw [List.getD_eq_getElem?_getD, List.getElem?_eq_getElem hl] at this
    simpa using this
  rw [h2] at h1
  omega
def Big (B n m : Nat) (s : RS) : Prop := (∀ a b, a < n → b < m → (s.A a b).natAbs ≤ B) ∧ s.d ≤ B ∧ 0 < s.d
theorem big_cross {a p b c : Int} {d B : Nat} (ha : a.natAbs ≤ B) (hp : p.natAbs ≤ B) (hb : b.natAbs ≤ B) (hc : c.natAbs ≤ B) : (crossZ a p b c d).natAbs ≤ 2 * B * B := by
  unfold crossZ
  rw [Int.natAbs_tdiv]
  refine Nat.le_trans (Nat.div_le_self _ _) ?_
  have h1 : (a * p).natAbs ≤ B * B := by rw [Int.natAbs_mul]; exact Nat.mul_le_mul ha hp
  have h2 : (b * c).natAbs ≤ B * B := by rw [Int.natAbs_mul]; exact Nat.mul_le_mul hb hc
  have h3 : 2 * B * B = B * B + B * B := by rw [Nat.mul_assoc]; omega
  omega
theorem big_swap {A : Nat → Nat → Int} {B n m i r : Nat} (h : ∀ a b, a < n → b < m → (A a b).natAbs ≤ B) (hi : i < n) (hr : r < n) : ∀ a b, a < n → b < m → (swF A i r a b).natAbs ≤ B := fun a b ha hb => by
  unfold swF
  split
  · exact h _ _ hr hb
  · split
    · exact h _ _ hi hb
    · exact h _ _ ha hb
theorem big_flip {A : Nat → Nat → Int} {B n m i c : Nat} (h : ∀ a b, a < n → b < m → (A a b).natAbs ≤ B) : ∀ a b, a < n → b < m → (flipM A m i c a b).natAbs ≤ B := fun a b ha hb => by
  unfold flipM
  split
  · exact h _ _ ha hb
  · unfold zer
    split
    · rw [Int.natAbs_neg]; exact h _ _ ha hb
    · exact h _ _ ha hb
theorem big_step {B n m k r : Nat} {s : RS} (h : Big B n m s) (hr : FirstRow s.A s.piv.length n k r) (hk : k < m) (hB : 1 ≤ B) : Big (2 * B * B) n m (stepG n m k s r) := by
  obtain ⟨h1, h2, h3⟩ := h
  obtain ⟨r1, r2, r3, _⟩ := hr
  have hp : s.piv.length < n := by omega
  have e1 := big_flip (i := s.piv.length) (c := k) (big_swap h1 hp r2)
  have hB2 : B ≤ 2 * B * B := by
    have := Nat.mul_le_mul_left (2 * B) hB
    omega
  refine ⟨fun a b ha hb => ?_, Nat.le_trans (e1 _ _ hp hk) hB2, ?_⟩
  · show (zcp _ m s.piv.length k s.d n a b).natAbs ≤ _
    unfold zcp
    split
    · exact big_cross (e1 _ _ ha hb) (e1 _ _ hp hk) (e1 _ _ ha hk) (e1 _ _ hp hb)
    · exact Nat.le_trans (e1 _ _ ha hb) hB2
  · show 0 < (flipM (swF s.A s.piv.length r) m s.piv.length k s.piv.length k).natAbs
    have : swF s.A s.piv.length r s.piv.length k ≠ 0 := by unfold swF; rw [if_pos rfl]; exact r3
    unfold flipM
    split
    · omega
    · unfold zer
      rw [if_pos ⟨rfl, hk⟩]
      omega
def bigTo (B : Nat) : Nat → Nat
  | 0 => B
  | k + 1 => 2 * bigTo B k * bigTo B k
theorem bigTo_pos {B : Nat} (hB : 1 ≤ B) (k : Nat) : 1 ≤ bigTo B k := by
  induction k with
  | zero => exact hB
  | succ k ih =>
    have := Nat.mul_le_mul (Nat.mul_le_mul (Nat.le_refl 2) ih) ih
    show 1 ≤ 2 * bigTo B k * bigTo B k
    omega
theorem bigTo_mono {B : Nat} (hB : 1 ≤ B) {k l : Nat} (h : k ≤ l) : bigTo B k ≤ bigTo B l := by
  induction l with
  | zero => obtain rfl : k = 0 := by omega
            exact Nat.le_refl _
  | succ l ih =>
    rcases Nat.lt_or_ge k (l + 1) with h1 | h1
    · refine Nat.le_trans (ih (by omega)) ?_
      have := Nat.mul_le_mul_left (2 * bigTo B l) (bigTo_pos hB l)
      show _ ≤ 2 * bigTo B l * bigTo B l
      omega
    · obtain rfl : k = l + 1 := by omega
      exact Nat.le_refl _
theorem Big.le {B C n m : Nat} {s : RS} (h : Big B n m s) (hB : B ≤ C) : Big C n m s := ⟨fun a b ha hb => Nat.le_trans (h.1 a b ha hb) hB, Nat.le_trans h.2.1 hB, h.2.2⟩
theorem big_run {B n m : Nat} {A : Nat → Nat → Int} (hB : 1 ≤ B) (h : ∀ a b, a < n → b < m → (A a b).natAbs ≤ B) : ∀ k, k ≤ m → Big (bigTo B k) n m (runK n m A k) := by
  intro k
  induction k with
  | zero => exact fun _ => ⟨h, hB, Nat.one_pos⟩
  | succ k ih =>
    intro hk
    have ih := ih (by omega)
    rw [runK]
    cases e : firstR (runK n m A k).A (runK n m A k).piv.length n k with
    | none => exact ih.le (bigTo_mono hB (Nat.le_succ k))
    | some r => exact big_step ih (firstR_of e) (by omega) (bigTo_pos hB k)
theorem big5 : bigTo 1536 5 < pw 13 := by decide
theorem big_run5 {n m : Nat} {A : Nat → Nat → Int} (h : ∀ a b, a < n → b < m → (A a b).natAbs ≤ 1536) {k : Nat} (hk : k ≤ m) (h5 : k ≤ 5) : (∀ a b, a < n → b < m → (lim ((runK n m A k).A a b).natAbs).length ≤ 13) ∧ (lim (runK n m A k).d).length ≤ 13 ∧ 0 < (runK n m A k).d := by
  obtain ⟨h1, h2, h3⟩ := (big_run (by omega) h k hk).le (bigTo_mono (by omega) h5)
  exact ⟨fun a b ha hb => lim_len_le.2 (Nat.lt_of_le_of_lt (h1 a b ha hb) big5), lim_len_le.2 (Nat.lt_of_le_of_lt h2 big5), h3⟩
theorem bnd_run5 {n m : Nat} {A : Nat → Nat → Int} (h : ∀ a b, a < n → b < m → (A a b).natAbs ≤ 1536) {k : Nat} (hk : k ≤ m) (h5 : k ≤ 5) : BndS n m (runK n m A k) := by
  obtain ⟨h1, h2, h3⟩ := big_run5 h hk h5
  refine ⟨fun a b ha hb => ⟨Nat.le_trans (h1 a b ha hb) (by omega), ?_⟩, by omega, h3⟩
  show (lim 1).length ≤ _
  rw [zdb]; simp
theorem at_run5 {n m : Nat} {A : Nat → Nat → Int} (h : ∀ a b, a < n → b < m → (A a b).natAbs ≤ 1536) {k : Nat} (hk : k ≤ m) (h5 : k ≤ 5) {i j : Nat} (hj : j < m) : Sz (atQ (runK n m A k).A (runK n m A k).piv.length (runK n m A k).d i j) 13 := by
  obtain ⟨h1, h2, h3⟩ := big_run5 h hk h5
  by_cases hi : i < (runK n m A k).piv.length
  · rw [atQ_in hi]
    exact sz_of_mk (by omega) (h1 _ _ (Nat.lt_of_lt_of_le hi (runK_len k)) hj) h2
  · rw [atQ_out hi]
    exact Sz.zero.le (by omega)
theorem Twelve.den {B : Nat} {q : Rat} (h : Twelve B q) : q.den ∣ 12 ∧ ∀ c, q.den * c = 12 → (q.num * (c : Int)).natAbs ≤ B := by
  obtain ⟨z, h1, h2⟩ := h
  have e : q.num * 12 = z * (q.den : Int) := by
    have h3 : (q.num : Rat) = q * ((q.den : Nat) : Rat) := by
      have h3 := Rat.mkRat_self q
      rw [Rat.mkRat_eq_div] at h3
      have h4 : ((q.den : Nat) : Rat) ≠ 0 := cast_ne q.den_pos
      have h5 := Rat.div_mul_cancel (a := (q.num : Rat)) h4
      rw [h3] at h5
      exact h5.symm
    have h4 : ((q.num * 12 : Int) : Rat) = ((z * (q.den : Int) : Int) : Rat) := by
      rw [Rat.intCast_mul, Rat.intCast_mul, h3, ← h1]
      show _ * (12 : Rat) = q * 12 * ((q.den : Nat) : Rat)
      grind
    exact Rat.intCast_inj.1 h4
  have e2 : q.num.natAbs * 12 = z.natAbs * q.den := by
    have := congrArg Int.natAbs e
    rw [Int.natAbs_mul, Int.natAbs_mul] at this
    exact this
  refine ⟨Nat.Coprime.dvd_of_dvd_mul_left (m := q.num.natAbs) q.reduced.symm ⟨z.natAbs, by rw [e2, Nat.mul_comm]⟩, fun c hc => ?_⟩
  rw [← hc] at e2
  have e3 : q.num.natAbs * c * q.den = z.natAbs * q.den := by rw [← e2, Nat.mul_assoc, Nat.mul_comm c]
  have e4 := Nat.eq_of_mul_eq_mul_right q.den_pos e3
  rw [Int.natAbs_mul]
  show q.num.natAbs * c ≤ B
  omega
theorem lcmTo_fold12 {B : Nat} (r : List Rat) (h : ∀ q ∈ r, Twelve B q) : ∀ o, o ∣ 12 → (r.foldl (fun o q => Nat.lcm o q.den) o) ∣ 12 := by
  induction r with
  | nil => exact fun o ho => ho
  | cons q r ih => exact fun o ho => ih (fun p hp => h p (List.mem_cons_of_mem _ hp)) _ (Nat.lcm_dvd ho (h q List.mem_cons_self).den.1)
theorem lcmTo12 {B : Nat} {r : List Rat} (h : ∀ q ∈ r, Twelve B q) : zej r ∣ 12 := lcmTo_fold12 r h 1 (Nat.one_dvd _)
theorem lift12 {B : Nat} {M : List (List Rat)} (h : ∀ r ∈ M, ∀ q ∈ r, Twelve B q) (i j : Nat) : (zcw M i j).natAbs ≤ B := by
  rcases e : M[i]? with _ | r
  · have e1 : M.getD i [] = [] := by rw [List.getD_eq_getElem?_getD, e]; rfl
    unfold zcw
    rw [e1]
    show ((0 : Int) * _).natAbs ≤ B
    rw [Int.zero_mul]
    exact Nat.zero_le _
  · rcases e2 : r[j]? with _ | x
    · have e1 : M.getD i [] = r := by rw [List.getD_eq_getElem?_getD, e]; rfl
      have e3 : r.getD j 0 = 0 := by rw [List.getD_eq_getElem?_getD, e2]; rfl
      unfold zcw
      rw [e1, e3]
      show ((0 : Int) * _).natAbs ≤ B
      rw [Int.zero_mul]
      exact Nat.zero_le _
    · rw [liftM_at e e2]
      have hr := List.mem_of_getElem? e
      have hx := List.mem_of_getElem? e2
      obtain ⟨h1, h2⟩ := (h r hr x hx).den
      obtain ⟨c, hc⟩ := h1
      obtain ⟨a, ha⟩ := lcmTo_dvd hx
      obtain ⟨b, hb⟩ := lcmTo12 (h r hr)
      rw [ha, Nat.mul_div_cancel_left a x.den_pos]
      rw [ha] at hb
      have e3 : x.den * (a * b) = 12 := by rw [← Nat.mul_assoc]; exact hb.symm
      have e4 := h2 (a * b) e3
      have hb0 : 1 ≤ b := by
        rcases Nat.eq_zero_or_pos b with h0 | h0
        · rw [h0] at hb; simp at hb
        · exact h0
      rw [Int.natAbs_mul] at e4 ⊢
      refine Nat.le_trans (Nat.mul_le_mul_left _ ?_) e4
      show a ≤ a * b
      have := Nat.mul_le_mul_left a hb0
      omega
theorem form_sz {n m k : Nat} {A : Nat → Nat → Int} (h : ∀ a b, a < n → b < m → (A a b).natAbs ≤ 1536) (h5 : m ≤ 5) : ∀ r ∈ zcu (runK n m A m) m k, ∀ q ∈ r, Sz q 13 := by
  intro r hr q hq
  obtain ⟨i, hi, rfl⟩ := List.mem_map.1 hr
  obtain ⟨j, hj, rfl⟩ := List.mem_map.1 hq
  have hj := List.mem_range.1 hj
  exact at_run5 h (Nat.le_refl m) h5 (by omega)
theorem kerTo_sz {s : RS} {m f : Nat} (hat : ∀ t, Sz (atQ s.A s.piv.length s.d t f) 13) : ∀ t, ∀ q ∈ zde s m f t, Sz q 13 := by
  intro t
  induction t with
  | zero =>
    intro q hq
    rw [zde] at hq
    rcases List.mem_or_eq_of_mem_set hq with hq | rfl
    · rw [(List.mem_replicate.1 hq).2]; exact Sz.zero.le (by omega)
    · exact ⟨by show (lim 1).length ≤ _; rw [zdb]; simp, by show (lim 1).length ≤ _; rw [zdb]; simp⟩
  | succ t ih =>
    intro q hq
    rw [zde] at hq
    rcases List.mem_or_eq_of_mem_set hq with hq | rfl
    · exact ih q hq
    · exact (hat t).neg
theorem ker_sz {n m : Nat} {A : Nat → Nat → Int} (h : ∀ a b, a < n → b < m → (A a b).natAbs ≤ 1536) (h5 : m ≤ 5) : ∀ r ∈ kerQ (runK n m A m) m m, ∀ q ∈ r, Sz q 13 := by
  intro r hr
  obtain ⟨f, hf, _, rfl⟩ := kerQ_mem m r hr
  exact kerTo_sz (fun t => at_run5 h (Nat.le_refl m) h5 hf) _
def ShortV (l : List Raw) : Prop := ∀ r ∈ l, r.num.length ≤ 3 ∧ r.den.length ≤ 3
theorem ShortV.snoc {l : List Raw} {r : Raw} (h : ShortV l) (h1 : r.num.length ≤ 3) (h2 : r.den.length ≤ 3) : ShortV (l ++ [r]) := by
  intro x hx
  rcases List.mem_append.1 hx with h0 | h0
  · exact h x h0
  · simp at h0; subst h0; exact ⟨h1, h2⟩
end Go.Proofs.YtblpaocignlpkaaDoor
