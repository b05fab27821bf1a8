/-
  The contract of package nat's Mul.
-/
import Derived.Test.YtbeocfiimminiaaDoorNatB
namespace Go.Proofs.YtbeocfiimminiaaDoor
open Go.RowKit
set_option linter.unusedVariables false

theorem val_map_mul (l : List Nat) (x : Nat) : val (l.map (fun t => x * t)) = x * val l := by
  induction l with
  | nil => simp [val]
  | cons y l ih => simp only [List.map_cons, val, ih]; grind
theorem getD_map_mul (l : List Nat) (x t : Nat) : (l.map (fun t => x * t)).getD t 0 = x * l.getD t 0 := by
  rw [List.getD_eq_getElem?_getD, List.getD_eq_getElem?_getD, List.getElem?_map]
  cases l[t]? <;> simp

set_option maxRecDepth 100000 in
set_option maxHeartbeats 1000000 in
theorem nmul_ok {w : World} {va vb : Value} {x y : Nat} {lo hi lo' hi' : Nat} (ha : IsN w lo hi va x) (hb : IsN w lo' hi' vb y) (hi1 : hi ≤ w.heap.size) (hi2 : hi' ≤ w.heap.size) (hx : (lim x).length ≤ 1024) (hy : (lim y).length ≤ 1024) :
    Calls Tryd.prog 32 #[va, vb] w fun e w' => (∃ v, e = .returned (.tuple #[v, .int .i64 (if (lim (x * y)).length ≤ 1024 then 0 else 5)]) ∧ IsN w' w.heap.size w'.heap.size v (if (lim (x * y)).length ≤ 1024 then x * y else 0)) ∧ Below w.heap.size w w' := by
  have Ha := Lib.hid ha
  have Hb := Lib.hid hb
  have Hf : Hid (fst2 (chk (lim x)) (chk (lim y)) = 0) := by simp [Hid, fst2, chk_lim hx, chk_lim hy]
  obtain ⟨A, c, rfl, _, _, hA⟩ := ha
  obtain ⟨B, d, rfl, _, _, hB⟩ := hb
  generalize hla : lim x = a at *
  generalize hlb : lim y = b at *
  have Hla := Lib.hid hla; clear hla
  have Hlb := Lib.hid hlb; clear hlb
  have Hal : Hid (Lo a ∧ val a = x) := by rw [Hid, ← Hla.out]; exact ⟨lo_lim x, val_lim x⟩
  have Hbl : Hid (Lo b ∧ val b = y) := by rw [Hid, ← Hlb.out]; exact ⟨lo_lim y, val_lim y⟩
  go_enter Tryd.func32, Tryd.ntmps32
  go_wp2_with fail
  refine (first_two (Ha.out.alloc hi1 _) (Hb.out.alloc hi2 _) (two_new _ _ _ _).1 (two_new _ _ _ _).2).mono ?_
  rw [Hla.out, Hlb.out, Hf.out]
  rintro e w1 ⟨rfl, rfl⟩
  go_wp2_with (first
    | (at_make; refine wp_make elW rfl (.tmp 24) (.tmp 24) rfl (a.length + b.length) rfl rfl (by omega) (by omega) (by omega) ?_; intro G1 w1 hG1 hr1 hb1 hz1)
    | (at_make; refine wp_make elW rfl (.tmp 28) (.tmp 28) rfl b.length rfl rfl rfl rfl (by omega) ?_; intro G2 w2 hG2 hr2 hb2 hz2))
  have hG1e : G1 = w.heap.size + 1 := by have := hG1.out; simpa using this
  have hgpe : w1.heap.size = G1 + 1 := hz1.out
  have hG2e : G2 = G1 + 2 := by have := hG2.out; simp at this; omega
  have hb1' : Below w.heap.size w w1 := ((Below.refl _ w).alloc (Nat.le_refl _) _).trans (hb1.mono (by omega))
  have hp2 : w2.cell? ⟨w1.heap.size, 0, none⟩ = some (.slice (some ⟨G1, 0, none⟩) (a.length + b.length) (a.length + b.length)) := by
    rw [hb2.cell (p := ⟨w1.heap.size, 0, none⟩) (by show w1.heap.size < G2; omega)]
    have := cell_one_new w1 (.slice (some ⟨G1, 0, none⟩) (a.length + b.length) (a.length + b.length)) 68 0 _ rfl
    rw [Addr.add_lit] at this
    exact this
  have hr12 := (hr1.alloc (.cells #[.slice (some ⟨G1, 0, none⟩) (a.length + b.length) (a.length + b.length)] 68)).below hb2 (by omega)
  have hb2' : Below w.heap.size w w2 := (hb1'.alloc (by omega) _).trans (hb2.mono (by omega))
  have hz2' : w2.heap.size = G2 + 1 := hz2.out
  clear hG1 hG2 hr1 hb1 hb2 hz1 hz2
  generalize hgp : w1.heap.size = gp at *
  have He := Lib.hid (And.intro hG1e (And.intro hgpe (And.intro hG2e hz2')))
  have hg1 : w.heap.size < G1 := by omega
  have hg2 : G1 < gp := by omega
  have hg3 : gp < G2 := by omega
  clear hG1e hgpe hG2e hz2' hgp hb1' Ha Hb
  go_loopw [32] (fun i wr => ∃ (k : Nat) (L R : List Nat), k ≤ a.length ∧ i = .int .i64 (k : Int) ∧ Row wr G1 61 (cel .u64 L) ∧ Row wr G2 61 (cel .u64 R) ∧ wr.cell? ⟨gp, 0, none⟩ = some (.slice (some ⟨G1, 0, none⟩) (a.length + b.length) (a.length + b.length)) ∧ Below w.heap.size w wr ∧
      Hid (R.length = b.length ∧ L.length = a.length + b.length ∧ Lo L ∧ val L = val (a.take k) * val b)) (fun i _ => a.length - (intOf i).toNat)
  case atStart => exact ⟨0, _, _, Nat.zero_le _, rfl, hr12, hr2, hp2, hb2', by simp, by simp, lo_replicate _, by rw [val_nil_take, Nat.zero_mul]; exact val_zeros (fun x hx => (List.mem_replicate.1 hx).2)⟩
  case round =>
    obtain ⟨k, L, R, hk, rfl, hrL, hrR, hpc, hbw, hrel⟩ := hrel
    rcases Nat.lt_or_ge k a.length with hlt | hge
    · obtain ⟨ba, oa, rfl, _, _, hca⟩ := (hA.below hbw hi1) (cel_ne (j := k) hlt)
      obtain ⟨x1, hx1, hx10, hx11, hx1c⟩ := cell_lo (j := k) Hal.out.1 hca hlt
      clear hca
      have HR := hrel; clear hrel
      have hpc0 := Lib.hid hpc; clear hpc
      obtain ⟨wo, rfl⟩ : ∃ wo : World, wo = wr := ⟨_, rfl⟩
      go_wp2
      go_loopw [39] (fun i wr => ∃ (j : Nat) (Q : List Nat), j ≤ b.length ∧ i = .int .i64 (j : Int) ∧ Row wr G2 61 (cel .u64 Q) ∧ Only G2 wo wr ∧ Hid (Q.length = b.length ∧ Q.take j = (b.take j).map (fun t => x1.toNat * t))) (fun i _ => b.length - (intOf i).toNat)
      case atStart => exact ⟨0, R, Nat.zero_le _, rfl, hrR, Only.refl _ _, HR.out.1, by simp⟩
      case round =>
        clear hrR hx1c
        obtain ⟨j, Q, hj, rfl, hrQ, hO, hrel⟩ := hrel
        rcases Nat.lt_or_ge j b.length with hjl | hjg
        · obtain ⟨bb, ob, rfl, _, _, hcb⟩ := ((hB.below hbw hi2).only hO (by omega)) (cel_ne (j := j) hjl)
          obtain ⟨y1, hy1, hy10, hy11, hy1c⟩ := cell_lo (j := j) Hbl.out.1 hcb hjl
          clear hcb
          obtain ⟨z, hz, hz0, hzc⟩ := hrQ.num (i := j) (by rw [hrel.out.1]; exact hjl)
          have hzf := hrQ.frozen j
          have hxy := mul_le_limb hx10 hx11 hy10 hy11
          have hxy0 := hxy.1
          have hxy1 := hxy.2
          clear hxy
          go_wp2
          go_roundw
          case rel =>
            refine ⟨j + 1, Q.set j (x1.toNat * b.getD j 0), by omega, by go_num, hrQ.setNum j _ _ ?_, hO.setCell _ _, by rw [List.length_set]; exact hrel.out.1, ?_⟩
            · rw [Int.natCast_mul, Int.toNat_of_nonneg hx10, ← hy1.out]
            · rw [take_set_succ (by rw [hrel.out.1]; exact hjl), hrel.out.2, List.take_succ_eq_append_getElem hjl, List.map_append, List.getD_eq_getElem?_getD, List.getElem?_eq_getElem hjl]
              rfl
          case measure => simp [intOf]; omega
        · obtain rfl : j = b.length := by omega
          have hQ : Q = b.map (fun t => x1.toNat * t) := by
            have := hrel.out.2
            rwa [List.take_of_length_le (Nat.le_of_eq hrel.out.1), List.take_of_length_le (Nat.le_refl _)] at this
          have hQl := Lib.hid hrel.out.1
          clear hrel
          have HQ := Lib.hid hQ
          clear hQ
          have hvQ : Hid (val Q = x1.toNat * val b) := by rw [Hid, HQ.out]; exact val_map_mul b _
          have hnew : Hid (val L + pw k * val Q = val (a.take (k + 1)) * val b) := by
            rw [Hid, hvQ.out, HR.out.2.2.2, val_take_succ' a, Nat.add_mul]
            have : x1.toNat = a.getD k 0 := by have := hx1.out; omega
            rw [this, Nat.mul_assoc]
          have hfit : val (a.take (k + 1)) * val b < pw (a.length + b.length) := by
            rw [pw_add]
            have h1 : val (a.take (k + 1)) < pw a.length := Nat.lt_of_lt_of_le (val_lt (lo_take Hal.out.1 _)) (pw_mono (by rw [List.length_take]; omega))
            have h2 := val_lt Hbl.out.1
            have := Nat.mul_le_mul (Nat.succ_le_of_lt h1) (Nat.succ_le_of_lt h2)
            have e : (val (a.take (k + 1)) + 1) * (val b + 1) = val (a.take (k + 1)) * val b + val (a.take (k + 1)) + val b + 1 := by grind
            simp only [Nat.succ_eq_add_one] at this
            omega
          have hpc := (World.cell?_of_block (w := wo) (w' := wr) (a := ⟨gp, 0, none⟩) (hO.block gp (by omega))).trans hpc0.out
          have hrL' := hrL.only hO (by omega)
          have HRl := HR.out.2.1
          have Hfit := Lib.hid hfit
          clear hfit
          have Hpc := Lib.hid hpc
          clear hpc hrL
          go_wp2_with fail
          refine (padd wr gp G1 k _ _ _ _ L Q G2 (G2 + 1) Hpc.out (by omega) hrL' HR.out.2.2.1 HRl (by omega) hrQ.sv (by omega) hQl.out (fun t => ?_) (by rw [hQl.out]; omega) (by rw [hnew.out]; exact Hfit.out)).mono ?_
          · rw [HQ.out, getD_map_mul]
            have h1 : x1.toNat ≤ 999999999 := by omega
            have h2 := lo_getD Hbl.out.1 t
            have := Nat.mul_le_mul h1 (Nat.le_of_lt_succ h2)
            omega
          rintro e w5 ⟨⟨L', rfl, hrL5, hL5l, hL5o, hL5v⟩, hO5⟩
          rw [hnew.out] at hL5v
          have H5 : Hid (L'.length = a.length + b.length ∧ Lo L' ∧ val L' = val (a.take (k + 1)) * val b) := ⟨hL5l, hL5o, hL5v⟩
          clear hL5l hL5o hL5v HRl
          have hrQ5 := hrQ.only hO5 (by omega)
          have hpc5 := (World.cell?_of_block (w := wr) (w' := w5) (a := ⟨gp, 0, none⟩) (hO5.block gp (by omega))).trans Hpc.out
          have hbw5 : Below w.heap.size w w5 := (hbw.trans (hO.below (by omega))).trans (hO5.below (by omega))
          go_wp2_with fail
          go_roundw
          case rel => exact ⟨k + 1, L', Q, by omega, by go_num, hrL5, hrQ5, hpc5, hbw5, hQl.out, H5.out.1, H5.out.2.1, H5.out.2.2⟩
          case measure => simp [intOf]; omega
    · obtain rfl : k = a.length := by omega
      have HV : Hid (val L = x * y) := by
        have := hrel.out.2.2.2
        rw [val_take_all (Nat.le_refl _), Hal.out.2, Hbl.out.2] at this
        exact this
      have hgpl : gp < wr.heap.size := by have := hrR.lt; omega
      have hgw := hbw.size
      have HRl := hrel.out.2.1
      have HLo := Lib.hid hrel.out.2.2.1
      clear hrel
      have Hpc := Lib.hid hpc
      clear hpc
      go_wp2_with fail
      refine (pnumber wr gp G1 _ L hgpl Hpc.out hrL HLo.out HRl (by omega)).mono ?_
      rintro e w5 ⟨⟨v5, rfl, hv5⟩, hb5⟩
      rw [HV.out] at hv5
      go_wp2_with fail
      refine (bounded_n hv5).mono ?_
      rintro e w6 ⟨rfl, rfl⟩
      by_cases hle : (lim (x * y)).length ≤ 1024
      · simp only [if_pos hle]
        go_wp2_with fail
        go_ret2
        exact ⟨⟨_, rfl, hv5.wide hgw (Nat.le_refl _)⟩, hbw.trans (hb5.mono hgw)⟩
      · simp only [if_neg hle]
        go_wp2_with fail
        go_ret2
        exact ⟨⟨_, rfl, IsN.zero⟩, hbw.trans (hb5.mono hgw)⟩
end Go.Proofs.YtbeocfiimminiaaDoor
