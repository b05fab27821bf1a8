/-
  The zaz of the law's own matrix: rows of drawn numbers, some of them sums of the two rows ahead.
-/
import Derived.Test.YtblpaocignlpkaaGreatDoorProofVectorLinear04
import Derived.Test.YtblpaocignlpkaaGreatDoorVlin09
import Derived.Test.YtblpaocignlpkaaGreatDoorVlin16
namespace Go.Proofs.YtblpaocignlpkaaGreatDoor
open Go.RowKit
set_option linter.unusedVariables false
structure DrawnM (n m : Nat) (M : List (List Rat)) : Prop where
  len : M.length = n
  row : ∀ r ∈ M, r.length = m
  num : ∀ i r, M[i]? = some r → ∀ q ∈ r, Twelve (48 * 2 ^ i) q
theorem pow_le5 {i : Nat} (h : i ≤ 5) : 48 * 2 ^ i ≤ 1536 := by
  have : i = 0 ∨ i = 1 ∨ i = 2 ∨ i = 3 ∨ i = 4 ∨ i = 5 := by omega
  rcases this with rfl | rfl | rfl | rfl | rfl | rfl <;> decide
theorem DrawnM.twelve {n m : Nat} {M : List (List Rat)} (h : DrawnM n m M) (hn : n ≤ 5) : ∀ r ∈ M, ∀ q ∈ r, Twelve 1536 q := fun r hr q hq => by
  obtain ⟨i, hi, rfl⟩ := List.getElem_of_mem hr
  have hl := h.len
  exact (h.num i _ (List.getElem?_eq_getElem hi) q hq).le (pow_le5 (by omega))
theorem DrawnM.sz {n m : Nat} {M : List (List Rat)} (h : DrawnM n m M) (hn : n ≤ 5) : ∀ r ∈ M, ∀ q ∈ r, Sz q 1 := fun r hr q hq => (h.twelve hn r hr q hq).sz (by omega)
theorem DrawnM.snoc {n m : Nat} {M : List (List Rat)} {r : List Rat} (h : DrawnM n m M) (hr : r.length = m) (hq : ∀ q ∈ r, Twelve (48 * 2 ^ n) q) : DrawnM (n + 1) m (M ++ [r]) := by
  refine ⟨by simp [h.len], fun s hs => ?_, fun i s hs q hq' => ?_⟩
  · rcases List.mem_append.1 hs with hs | hs
    · exact h.row s hs
    · rw [List.mem_singleton.1 hs]; exact hr
  · rcases Nat.lt_or_ge i M.length with hi | hi
    · rw [List.getElem?_append_left hi] at hs
      exact h.num i s hs q hq'
    · rw [List.getElem?_append_right hi] at hs
      have : i - M.length = 0 := by
        rcases Nat.eq_zero_or_pos (i - M.length) with h0 | h0
        · exact h0
        · rw [List.getElem?_eq_none (by simp; omega)] at hs; cases hs
      rw [this] at hs
      cases hs
      have hl := h.len
      obtain rfl : i = n := by omega
      exact hq q hq'
set_option maxRecDepth 100000 in
set_option maxHeartbeats 8000000 in
theorem matrix_l {w : World} {g : Nat} {l : List Int} (hD : IsD w g l) {n m : Nat} (hn : n ≤ 5) (hm : m ≤ 5) : Calls Tryz.prog 44 #[.pointer (some ⟨g, 0, none⟩), .int .i64 (n : Int), .int .i64 (m : Int)] w (DrewR IsM (fun a => ∃ M : List (List Rat), a = rawM M ∧ DrawnM n m M) w g l) := by
  have hgw := hD.lt
  have D0 := Lib.hid hD
  clear hD
  go_enter Tryz.func44, Tryz.ntmps44
  go_wp2_with fail
  go_loopw [8, 7, 9, 10, 11] (fun ii ov _ _ _ wr => ∃ (i : Nat) (S : Nat → Prop) (M : List (List Rat)), i ≤ n ∧ ii = .int .i64 (i : Int) ∧ w.grownBy wr (some g) ∧ IsD wr g l ∧ Hid (OwnS 1 25 IsV wr w.heap.size S ov (rawM M)) ∧ Hid (DrawnM i m M ∧ ∀ b, S b → w.heap.size ≤ b)) (fun ii _ _ _ _ _ => n - (intOf ii).toNat)
  case atStart => exact ⟨0, fun _ => False, [], Nat.zero_le _, rfl, zag _ _, D0.out, OwnS.nil (fun b hb => hb.elim), ⟨rfl, (fun _ h => by cases h), fun _ _ h => by cases h⟩, fun b hb => hb.elim⟩
  case round =>
    obtain ⟨wo, rfl⟩ : ∃ x, x = wr := ⟨_, rfl⟩
    obtain ⟨i, S, M, hi, rfl, hgr, hD, hown, hM⟩ := hrel
    have G := Lib.hid hgr
    have D := Lib.hid hD
    have Own := Lib.hid hown.out
    have HM := Lib.hid hM.out.1
    have HS := Lib.hid hM.out.2
    clear hgr hD hown hM
    rcases Nat.lt_or_ge i n with hlt | hge
    · have Hlt := Lib.hid hlt
      have hgo : g < wo.heap.size := Nat.lt_of_lt_of_le hgw G.out.size
      obtain ⟨A0, cA0, hA0⟩ := Own.out.slice
      rw [zcy, HM.out.len] at hA0
      subst hA0
      go_wp2_with fail
      clear hlt
      go_loopw [10, 9, 11] (fun kk rv _ wi => ∃ (k : Nat) (S2 : Nat → Prop) (q : List Rat), k ≤ m ∧ kk = .int .i64 (k : Int) ∧ wo.grownBy wi (some g) ∧ IsD wi g l ∧ Hid (OwnS 3 31 IsR wi wo.heap.size S2 rv (rawV q)) ∧ Hid (q.length = k ∧ (∀ x ∈ q, Twelve (48 * 2 ^ i) x) ∧ ∀ b, S2 b → wo.heap.size ≤ b)) (fun kk _ _ _ => m - (intOf kk).toNat)
      case atStart => exact ⟨0, fun _ => False, [], Nat.zero_le _, rfl, (zag _ _), D.out, OwnS.nil (fun b hb => hb.elim), rfl, (fun _ h => by cases h), fun b hb => hb.elim⟩
      case round =>
        obtain ⟨wi, rfl⟩ : ∃ x, x = wr := ⟨_, rfl⟩
        obtain ⟨k, S2, q, hk, rfl, hgi, hDi, hrow, hq⟩ := hrel
        have GI := Lib.hid hgi
        have DI := Lib.hid hDi
        have OwnI := Lib.hid hrow.out
        have hql := hq.out.1
        have hzi : wo.heap.size ≤ wi.heap.size := GI.out.size
        clear hgi hDi hrow
        rcases Nat.lt_or_ge k m with hkm | hkm
        · have Hkm := Lib.hid hkm
          go_wp2_with fail
          refine (rational_q DI.out (.inl rfl)).mono ?_
          rintro e w2 ⟨⟨v2, x', rfl, hv2, hsx'⟩, hD2, hg2⟩
          obtain ⟨s2, P2, k2, O2, l2, rfl, _, _, _⟩ := zal hv2
          obtain ⟨wx, hwx, hbx, rx, hzx⟩ := zbq w2 #[.bool s2, .slice P2 (lim x'.num.natAbs).length k2, .slice O2 (lim x'.den).length l2] 31
          have G2 := Lib.hid (zas hg2 (zbf hbx))
          have D2 := Lib.hid (hD2.next hbx hD2.lt)
          have V2 := Lib.hid (IsQ.stb.fresh hv2 hbx)
          have RX := Lib.hid rx
          have Hzx := Lib.hid hzx.out
          have T2 : Hid (Twelve 48 x') := Drawn.twelve hsx'
          obtain ⟨g0, g1, g2⟩ := zac rx
          have hgx : g ≠ w2.heap.size := by have := hD2.lt; omega
          have hz2 : wi.heap.size ≤ w2.heap.size := hg2.size
          clear hv2 hsx' hD2 hg2 rx hzx hbx
          have hown2 : Hid (OwnS 3 31 IsR wx wo.heap.size (fun b => S2 b ∨ (wi.heap.size ≤ b ∧ b < wx.heap.size)) _ (rawV q)) := OwnS.drawn IsR.stb OwnI.out hq.out.2.2 G2.out hgo
          by_cases hi1 : 1 < i
          · have hi1' : (1 : Int) < (i : Int) := by omega
            go_wp2_with fail
            clear hwx g0 g1 g2
            refine (next_i D2.out 3 (by omega) (by omega)).mono ?_
            rintro e w3 ⟨⟨y, hy0, hy1, rfl⟩, hD3, hO3⟩
            have D3 := Lib.hid hD3
            have G3 := Lib.hid hO3.grown
            have G7 := Lib.hid (zas GI.out (zas G2.out hO3.grown))
            have R3 := Lib.hid (RX.out.grownN hO3.grown fun b e => by cases e; exact hgx.symm)
            have hz3 : w3.heap.size = wx.heap.size := hO3.size
            have Hz3 := Lib.hid hz3
            have V3 : Hid (IsQ w3 (New wi.heap.size w3) (.agg #[.bool s2, .slice P2 (lim x'.num.natAbs).length k2, .slice O2 (lim x'.den).length l2]) x') := IsQ.stb.to V2.out fun b hb => ⟨⟨hb.1, by rw [hz3]; exact hb.2⟩, fun o => World.cell?_of_block (hO3.block b (by have h1 := hb.1; have h2 := DI.out.lt; omega))⟩
            obtain ⟨g0, g1, g2⟩ := zac R3.out
            clear hD3 hO3 hz3
            by_cases hy : y = 0
            · subst hy
              obtain ⟨i1, hi1e⟩ : ∃ i1, i = i1 + 1 := ⟨i - 1, by omega⟩
              obtain ⟨i2, hi2e⟩ : ∃ i2, i = i2 + 2 := ⟨i - 2, by omega⟩
              have GO3 : wo.grownBy w3 (some g) := G7.out
              have hMo : IsM wo (New w.heap.size wo) (.slice A0 i cA0) (rawM M) := OwnS.isS IsV.stb Own.out (fun b hb => by
                obtain ⟨_, _, _, _, h4⟩ := Own.out
                exact ⟨HS.out b hb, (h4 b hb).1⟩) (fun b h1 h2 => ⟨h1, h2⟩)
              have hM3 : IsM w3 (New w.heap.size wo) (.slice A0 i cA0) (rawM M) := IsM.stb.to hMo (zem GO3 fun b hb => ⟨hb.2, fun e => by have := hb.1; cases e; omega⟩)
              obtain ⟨r1, hr1, hrr1⟩ := zee (m := M) (j := i1) (by rw [HM.out.len]; omega)
              obtain ⟨r2, hr2, hrr2⟩ := zee (m := M) (j := i2) (by rw [HM.out.len]; omega)
              obtain ⟨b0, o0, R1, c1, hA0, hSb0, hel1, e0⟩ := zda hM3 hrr1
              obtain ⟨b0', o0', R2, c2, hA0', _, hel2, e1⟩ := zda hM3 hrr2
              rw [hA0] at hA0'
              cases hA0'
              subst hA0
              have el1 : (rawV r1).length = m := by rw [zbp]; exact HM.out.row r1 (List.mem_of_getElem? hr1)
              have el2 : (rawV r2).length = m := by rw [zbp]; exact HM.out.row r2 (List.mem_of_getElem? hr2)
              rw [el1] at e0 hel1
              rw [el2] at e1 hel2
              obtain ⟨x, hx, hrx⟩ := zct (l := r1) (j := k) (by rw [← zbp, el1]; exact Hkm.out)
              obtain ⟨y, hy, hry⟩ := zct (l := r2) (j := k) (by rw [← zbp, el2]; exact Hkm.out)
              obtain ⟨b1, o1, X1, X2, X3, X4, rfl, hSb1, helx, e2, e3, e4⟩ := zcu hel1 hrx
              obtain ⟨b2, o2, Y1, Y2, Y3, Y4, rfl, hSb2, hely, e5, e6, e7⟩ := zcu hel2 hry
              obtain ⟨x0, hx0⟩ : ∃ s, s = (raw x).neg := ⟨_, rfl⟩
              obtain ⟨x1, hx1⟩ : ∃ s, s = (raw x).num.length := ⟨_, rfl⟩
              obtain ⟨x2, hx2⟩ : ∃ s, s = (raw x).den.length := ⟨_, rfl⟩
              obtain ⟨y0, hy0⟩ : ∃ s, s = (raw y).neg := ⟨_, rfl⟩
              obtain ⟨y1, hy1⟩ : ∃ s, s = (raw y).num.length := ⟨_, rfl⟩
              obtain ⟨y2, hy2⟩ : ∃ s, s = (raw y).den.length := ⟨_, rfl⟩
              rw [← hx0] at e2
              rw [← hx1] at e3
              rw [← hx2] at e4
              rw [← hy0] at e5
              rw [← hy1] at e6
              rw [← hy2] at e7
              rw [← hx0, ← hx1, ← hx2] at helx
              rw [← hy0, ← hy1, ← hy2] at hely
              have E := Lib.hid (And.intro e0 (And.intro e1 (And.intro e2 (And.intro e3 (And.intro e4 (And.intro e5 (And.intro e6 e7)))))))
              have Qx := Lib.hid (IsQ.stb.to (zek helx) (zba fun b hb => Nat.lt_of_lt_of_le hb.2 G7.out.size : Same _ (Old w3) w3 w3))
              have Qy := Lib.hid (IsQ.stb.to (zek hely) (zba fun b hb => Nat.lt_of_lt_of_le hb.2 G7.out.size : Same _ (Old w3) w3 w3))
              obtain ⟨z, hz⟩ : ∃ z, z = x + y := ⟨_, rfl⟩
              have Hz := Lib.hid hz
              have Tx := Lib.hid (HM.out.num i1 r1 hr1 x (List.mem_of_getElem? hx))
              have Ty := Lib.hid (HM.out.num i2 r2 hr2 y (List.mem_of_getElem? hy))
              have Tz : Hid (Twelve (48 * 2 ^ i) z) := by
                rw [Hid, hz]
                refine (Tx.out.add Ty.out).le ?_
                have h1 : i1 = i2 + 1 := by omega
                rw [hi2e, h1, Nat.pow_succ, Nat.pow_succ]
                omega
              have hin5 : i ≤ 5 := by omega
              have p1 := pow_le5 (i := i1) (by omega)
              have p2 := pow_le5 (i := i2) (by omega)
              have Hsx : Hid (Sz x 100000) := (Tx.out.sz (by omega)).le (by omega)
              have Hsy : Hid (Sz y 100000) := (Ty.out.sz (by omega)).le (by omega)
              have hw1 : (i : Int) - 1 = (i1 : Int) := by omega
              have hw2 : (i : Int) - 2 = (i2 : Int) := by omega
              have hwr1 : IntKind.i64.wrap (i1 : Int) = (i1 : Int) := IntWalk.i64_in _ (by omega)
              have hwr2 : IntKind.i64.wrap (i2 : Int) = (i2 : Int) := IntWalk.i64_in _ (by omega)
              have hp1 : (0 : Int) ≤ (i1 : Int) := by omega
              have hp2 : (0 : Int) ≤ (i2 : Int) := by omega
              have hpk : (0 : Int) ≤ (k : Int) := by omega
              have hl1 : (i1 : Int) < (i : Int) := by omega
              have hl2 : (i2 : Int) < (i : Int) := by omega
              have hk9 : (k : Int) < (m : Int) := by omega
              have Hbb : Hid (b0 < w3.heap.size ∧ True) := ⟨World.block_lt_of_cell? w3 _ e0, trivial⟩
              have cr := zbs
              have Hnb : Hid ((b0 ≠ w2.heap.size ∧ b1 ≠ w2.heap.size) ∧ b2 ≠ w2.heap.size) := by have := hSb0.2; have := hSb1.2; have := hSb2.2; refine ⟨⟨?_, ?_⟩, ?_⟩ <;> omega
              have hnb := Hnb.out
              have hzg : w2.heap.size < w3.heap.size := by rw [Hz3.out, Hzx.out]; exact Nat.lt_succ_self _
              clear hr1 hr2 hrr1 hrr2 hx hy hrx hry helx hely hx0 hx1 hx2 hy0 hy1 hy2 hz hel1 hel2 el1 el2 hSb0 hSb1 hSb2 hM3 hMo GO3 hi1e hi2e p1 p2 hin5
              go_wp2_with fail
              have HS : Hid (∀ W : World, Below w3.heap.size w3 W → W.cell? ⟨b0, o0 + i1, none⟩ = some (.slice (some ⟨b1, o1, none⟩) m c1) ∧ W.cell? ⟨b0, o0 + i2, none⟩ = some (.slice (some ⟨b2, o2, none⟩) m c2) ∧ W.cell? ⟨b1, o1 + k * 3, none⟩ = some (.bool x0) ∧ W.cell? ⟨b1, o1 + k * 3 + 1, none⟩ = some (.slice X1 x1 X2) ∧ W.cell? ⟨b1, o1 + k * 3 + 2, none⟩ = some (.slice X3 x2 X4) ∧ W.cell? ⟨b2, o2 + k * 3, none⟩ = some (.bool y0) ∧ W.cell? ⟨b2, o2 + k * 3 + 1, none⟩ = some (.slice Y1 y1 Y2) ∧ W.cell? ⟨b2, o2 + k * 3 + 2, none⟩ = some (.slice Y3 y2 Y4)) := fun W hW => ⟨zad hW E.out.1, zad hW E.out.2.1, zad hW E.out.2.2.1, zad hW E.out.2.2.2.1, zad hW E.out.2.2.2.2.1, zad hW E.out.2.2.2.2.2.1, zad hW E.out.2.2.2.2.2.2.1, zad hW E.out.2.2.2.2.2.2.2⟩
              have D5 : Hid (∀ W : World, Below w3.heap.size w3 W → Calls Tryz.prog 42 #[.agg #[.bool x0, .slice X1 x1 X2, .slice X3 x2 X4], .agg #[.bool y0, .slice Y1 y1 Y2, .slice Y3 y2 Y4]] W (RetQ W z)) := fun W hW => raddq (IsQ.stb.next Qx.out hW) (IsQ.stb.next Qy.out hW) Hsx.out Hsy.out Hz.out
              go_region_held3 (fun w' => w'.cell? ⟨b0, o0 + i1, none⟩ = some (.slice (some ⟨b1, o1, none⟩) m c1) ∧ w'.cell? ⟨b0, o0 + i2, none⟩ = some (.slice (some ⟨b2, o2, none⟩) m c2) ∧ w'.cell? ⟨b1, o1 + k * 3, none⟩ = some (.bool x0) ∧ w'.cell? ⟨b1, o1 + k * 3 + 1, none⟩ = some (.slice X1 x1 X2) ∧ w'.cell? ⟨b1, o1 + k * 3 + 2, none⟩ = some (.slice X3 x2 X4) ∧ w'.cell? ⟨b2, o2 + k * 3, none⟩ = some (.bool y0) ∧ w'.cell? ⟨b2, o2 + k * 3 + 1, none⟩ = some (.slice Y1 y1 Y2) ∧ w'.cell? ⟨b2, o2 + k * 3 + 2, none⟩ = some (.slice Y3 y2 Y4))
                (first | exact HS.out _ (by (repeat (first | exact Below.refl _ _ | assumption | refine zaj ?_ _ | refine zam ?_ | refine zan ?_ ?_ _ _ _ | refine zao ?_ (by omega) | refine zaa ?_ (by assumption))); (first | done | fail)) | exact ⟨zar (HS.out _ (by (repeat (first | exact Below.refl _ _ | assumption | refine zaj ?_ _ | refine zam ?_ | refine zan ?_ ?_ _ _ _ | refine zao ?_ (by omega) | refine zaa ?_ (by assumption))); (first | done | fail))).1 (by omega), zar (HS.out _ (by (repeat (first | exact Below.refl _ _ | assumption | refine zaj ?_ _ | refine zam ?_ | refine zan ?_ ?_ _ _ _ | refine zao ?_ (by omega) | refine zaa ?_ (by assumption))); (first | done | fail))).2.1 (by omega), zar (HS.out _ (by (repeat (first | exact Below.refl _ _ | assumption | refine zaj ?_ _ | refine zam ?_ | refine zan ?_ ?_ _ _ _ | refine zao ?_ (by omega) | refine zaa ?_ (by assumption))); (first | done | fail))).2.2.1 (by omega), zar (HS.out _ (by (repeat (first | exact Below.refl _ _ | assumption | refine zaj ?_ _ | refine zam ?_ | refine zan ?_ ?_ _ _ _ | refine zao ?_ (by omega) | refine zaa ?_ (by assumption))); (first | done | fail))).2.2.2.1 (by omega), zar (HS.out _ (by (repeat (first | exact Below.refl _ _ | assumption | refine zaj ?_ _ | refine zam ?_ | refine zan ?_ ?_ _ _ _ | refine zao ?_ (by omega) | refine zaa ?_ (by assumption))); (first | done | fail))).2.2.2.2.1 (by omega), zar (HS.out _ (by (repeat (first | exact Below.refl _ _ | assumption | refine zaj ?_ _ | refine zam ?_ | refine zan ?_ ?_ _ _ _ | refine zao ?_ (by omega) | refine zaa ?_ (by assumption))); (first | done | fail))).2.2.2.2.2.1 (by omega), zar (HS.out _ (by (repeat (first | exact Below.refl _ _ | assumption | refine zaj ?_ _ | refine zam ?_ | refine zan ?_ ?_ _ _ _ | refine zao ?_ (by omega) | refine zaa ?_ (by assumption))); (first | done | fail))).2.2.2.2.2.2.1 (by omega), zar (HS.out _ (by (repeat (first | exact Below.refl _ _ | assumption | refine zaj ?_ _ | refine zam ?_ | refine zan ?_ ?_ _ _ _ | refine zao ?_ (by omega) | refine zaa ?_ (by assumption))); (first | done | fail))).2.2.2.2.2.2.2 (by omega)⟩)
                (first
                  | (go_at_call 42; (with_reducible refine Calls.mono (D5.out _ (by (repeat (first | exact Below.refl _ _ | assumption | refine zaj ?_ _ | refine zam ?_ | refine zan ?_ ?_ _ _ _ | refine zao ?_ (by omega) | refine zaa ?_ (by assumption))); (first | done | fail))) ?_); rintro e w5 ⟨⟨v5, rfl, hv5⟩, hb5⟩; have V5 := Lib.hid (IsQ.stb.old hv5); obtain ⟨s5, P5, k5, O5, l5, rfl, _, _, _⟩ := zal hv5; have hB5 : Below w3.heap.size w3 w5 := (by (repeat (first | exact Below.refl _ _ | assumption | refine zaj ?_ _ | refine zam ?_ | refine zan ?_ ?_ _ _ _ | refine zao ?_ (by omega) | refine zaa ?_ (by assumption))); (first | done | fail)); have R5 := Lib.hid (R3.out.next hB5); obtain ⟨p0, p1, p2⟩ := zac R5.out; obtain ⟨f0, f1, f2⟩ := zau R5.out))
              all_goals
                clear e0 e1 e2 e3 e4 e5 e6 e7
                have G5 := zas G7.out (zbf (row := some g) hB5)
                have hol := OwnS.own_lt OwnI.out
                have hS2 : ∀ b, S2 b → b < wi.heap.size := fun b hb => by obtain ⟨_, _, _, _, h4⟩ := OwnI.out; exact (h4 b hb).1
                have h3 := OwnI.out.grown IsR.stb (zas G2.out G3.out) fun b e => ⟨fun e' => by have := (hol b e').1; cases e; omega, fun hs => by have := hq.out.2.2 b hs; cases e; omega⟩
                have h5 := OwnS.step IsR.stb (T := (fun b => S2 b ∨ (w3.heap.size ≤ b ∧ b < w5.heap.size))) h3 hB5 (fun b h => .inl h) (fun b h => h)
                have gput : w5.grownBy (put3 w5 w2.heap.size (.bool s5) (.slice P5 (lim z.num.natAbs).length k5) (.slice O5 (lim z.den).length l5)) (some w2.heap.size) := zas (zas (zcd _ _ _ _) (zcd _ _ _ _)) (zcd _ _ _ _)
                have hown7 := h5.grown IsR.stb gput fun b e => ⟨fun e' => by have := (hol b e').2; cases e; omega, fun hs => by cases e; rcases hs with hs | hs; have := hS2 _ hs; omega; have := hs.1; omega⟩
                have hel7 := IsQ.stb.to hv5 (zcl (g := w2.heap.size) (a := .bool s5) (b := .slice P5 (lim z.num.natAbs).length k5) (c := .slice O5 (lim z.den).length l5) (T := (fun b => S2 b ∨ (w3.heap.size ≤ b ∧ b < w5.heap.size))) fun b hb => ⟨by have h1 : w3.heap.size ≤ b := hb.1; omega, .inr hb⟩)
                have hzo : wo.heap.size ≤ w2.heap.size := Nat.le_trans hzi hz2
                have G7 := Lib.hid (zcr (zcr (zcr G5 hzo 0 (.bool s5)) hzo 1 (.slice P5 (lim z.num.natAbs).length k5)) hzo 2 (.slice O5 (lim z.den).length l5))
                have hgw2 : g < w2.heap.size := Nat.lt_of_lt_of_le hgo hzo
                have D5 := D3.out.next hB5 D3.out.lt
                have D7 := Lib.hid (((D5.far (p := ⟨w2.heap.size, 0, none⟩) hgw2 (.bool s5)).far (p := ⟨w2.heap.size, 1, none⟩) hgw2 (.slice P5 (lim z.num.natAbs).length k5)).far (p := ⟨w2.heap.size, 2, none⟩) hgw2 (.slice O5 (lim z.den).length l5))
                have hbase7 := G7.out.size
                have hz3o : wo.heap.size ≤ w3.heap.size := by omega
                clear G5 h3 h5 gput D5
                go_wp2_with (at_builtin; refine wp_appS2 elR rfl _ _ rfl IsR.stb rfl rfl (by simp [World.setCell]) rfl hown7 hel7 rfl (by intro u hu; simp [Value.cells] at hu; rcases hu with rfl | rfl | rfl <;> rfl) (by rw [zbp]; omega) hbase7 ?_; intro v8 w8 hown8 hb8 hz8)
                go_roundw
                case rel =>
                  refine ⟨k + 1, (fun b => S2 b ∨ (w3.heap.size ≤ b ∧ b < w5.heap.size)), q ++ [z], Hkm.out, by go_num, zff G7.out hb8, D7.out.next hb8 hgo, by rw [Hid, zdh]; exact hown8, by simp [hql], fun y hy => ?_, fun b hb => by rcases hb with hb | hb; exact hq.out.2.2 b hb; exact Nat.le_trans hz3o hb.1⟩
                  rcases List.mem_append.1 hy with h | h
                  · exact hq.out.2.1 y h
                  · rw [List.mem_singleton.1 h]; exact Tz.out
                case measure => have := Hkm.out; simp [intOf]; omega
            · have hy' : ¬ (y = 0) := hy
              have hown7 : OwnS 3 31 IsR w3 wo.heap.size (fun b => S2 b ∨ (wi.heap.size ≤ b ∧ b < w3.heap.size)) _ (rawV q) := OwnS.drawn IsR.stb OwnI.out hq.out.2.2 (zas G2.out G3.out) hgo
              have hel7 := IsQ.stb.to V3.out (zba (T := (fun b => S2 b ∨ (wi.heap.size ≤ b ∧ b < w3.heap.size))) fun b h => .inr h)
              have hbase7 : wo.heap.size ≤ w3.heap.size := G7.out.size
              have D7 := D3
              have TWW : Hid (Twelve (48 * 2 ^ i) x') := T2.out.le (by have := Nat.one_le_two_pow (n := i); omega)
              go_wp2_with (at_builtin; refine zcj elR rfl _ _ rfl IsR.stb rfl rfl rfl hown7 hel7 rfl (by intro u hu; simp [Value.cells] at hu; rcases hu with rfl | rfl | rfl <;> rfl) (by rw [zbp]; omega) hbase7 ?_; intro v8 w8 hown8 hb8 hz8)
              go_roundw
              case rel =>
                refine ⟨k + 1, (fun b => S2 b ∨ (wi.heap.size ≤ b ∧ b < w3.heap.size)), q ++ [x'], Hkm.out, by go_num, zff G7.out hb8, D7.out.next hb8 hgo, by rw [Hid, zdh]; exact hown8, by simp [hql], fun y hy => ?_, fun b hb => by rcases hb with hb | hb; exact hq.out.2.2 b hb; exact Nat.le_trans hzi hb.1⟩
                rcases List.mem_append.1 hy with h | h
                · exact hq.out.2.1 y h
                · rw [List.mem_singleton.1 h]; exact TWW.out
              case measure => have := Hkm.out; simp [intOf]; omega
          · have hi1' : ¬ ((1 : Int) < (i : Int)) := by omega
            have hown7 := hown2.out
            have hel7 := IsQ.stb.to V2.out (zba (T := (fun b => S2 b ∨ (wi.heap.size ≤ b ∧ b < wx.heap.size))) fun b h => .inr h)
            have hbase7 : wo.heap.size ≤ wx.heap.size := Nat.le_trans hzi G2.out.size
            have D7 := D2
            have G7 := Lib.hid (zas GI.out G2.out)
            have TWW : Hid (Twelve (48 * 2 ^ i) x') := T2.out.le (by have := Nat.one_le_two_pow (n := i); omega)
            go_wp2_with (at_builtin; refine zcj elR rfl _ _ rfl IsR.stb rfl rfl rfl hown7 hel7 rfl (by intro u hu; simp [Value.cells] at hu; rcases hu with rfl | rfl | rfl <;> rfl) (by rw [zbp]; omega) hbase7 ?_; intro v8 w8 hown8 hb8 hz8)
            go_roundw
            case rel =>
              refine ⟨k + 1, (fun b => S2 b ∨ (wi.heap.size ≤ b ∧ b < wx.heap.size)), q ++ [x'], Hkm.out, by go_num, zff G7.out hb8, D7.out.next hb8 hgo, by rw [Hid, zdh]; exact hown8, by simp [hql], fun y hy => ?_, fun b hb => by rcases hb with hb | hb; exact hq.out.2.2 b hb; exact Nat.le_trans hzi hb.1⟩
              rcases List.mem_append.1 hy with h | h
              · exact hq.out.2.1 y h
              · rw [List.mem_singleton.1 h]; exact TWW.out
            case measure => have := Hkm.out; simp [intOf]; omega
        · obtain rfl : k = m := by omega
          have hlt : ¬ k < k := by omega
          obtain ⟨L, cL, hL⟩ := OwnI.out.slice
          subst hL
          have hown := OwnS.drawn IsV.stb Own.out HS.out GI.out hgw
          have hel := OwnS.isS IsR.stb (T := fun b => S b ∨ (wo.heap.size ≤ b ∧ b < wi.heap.size)) OwnI.out (fun b hb => .inr ⟨hq.out.2.2 b hb, by obtain ⟨_, _, _, _, h4⟩ := OwnI.out; exact (h4 b hb).1⟩) (fun b h1 h2 => .inr ⟨h1, h2⟩)
          have hbase : w.heap.size ≤ wi.heap.size := Nat.le_trans G.out.size GI.out.size
          have hMl := HM.out.len
          go_wp2_with (at_builtin; refine zcj elV rfl _ _ rfl IsV.stb rfl rfl rfl hown hel rfl (by intro u hu; simp [Value.cells] at hu; subst hu; rfl) (by rw [zcy]; omega) hbase ?_; intro v8 w8 hown8 hb8 hz8)
          go_roundw
          case rel =>
            refine ⟨i + 1, fun b => S b ∨ (wo.heap.size ≤ b ∧ b < wi.heap.size), M ++ [q], Hlt.out, by go_num, zff (zas G.out GI.out) hb8, DI.out.next hb8 hgw, by rw [Hid, rawM_one]; exact hown8, HM.out.snoc hql hq.out.2.1, fun b hb => by rcases hb with hb | hb; exact HS.out b hb; exact Nat.le_trans G.out.size hb.1⟩
          case measure => have := Hlt.out; simp [intOf]; omega
    · obtain rfl : i = n := by omega
      have hlt : ¬ i < i := by omega
      have hV : IsM wo (New w.heap.size wo) _ (rawM M) := OwnS.isS IsV.stb (T := New w.heap.size wo) Own.out (fun b hb => ⟨HS.out b hb, by obtain ⟨_, _, _, _, h4⟩ := Own.out; exact (h4 b hb).1⟩) (fun b h1 h2 => ⟨h1, h2⟩)
      have HV := Lib.hid hV
      clear hV
      go_wp2_with fail
      go_ret
      exact ⟨⟨_, _, rfl, HV.out, M, rfl, HM.out⟩, D.out, G.out⟩
end Go.Proofs.YtblpaocignlpkaaGreatDoor
