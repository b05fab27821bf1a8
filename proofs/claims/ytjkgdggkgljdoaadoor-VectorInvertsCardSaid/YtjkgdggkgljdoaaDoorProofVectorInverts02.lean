/-
  Contracts of package long: Clone, Clones, Rows.
-/
import Derived.Test.YtjkgdggkgljdoaaDoorVinv06
import Derived.Test.YtjkgdggkgljdoaaDoorVinv09
import Derived.Test.YtjkgdggkgljdoaaDoorProofVectorInverts01
import Derived.Test.YtjkgdggkgljdoaaDoorVinv18
import Derived.Test.YtjkgdggkgljdoaaDoorVinv12
import Derived.Test.YtjkgdggkgljdoaaDoorVinv11
import Derived.Test.YtjkgdggkgljdoaaDoorVinv07
import Derived.Test.YtjkgdggkgljdoaaDoorVinv16
import Derived.BigQuiet
import Derived.Test.YtjkgdggkgljdoaaDoorVinv17
namespace Go.Proofs.YtjkgdggkgljdoaaDoor
open Go.RowKit
set_option linter.unusedVariables false
set_option maxRecDepth 100000 in
set_option maxHeartbeats 4000000 in
theorem clones_l {w : World} {va : Value} {a : List Rat} {M : Nat} (ha : IsV w (Old w) va (rawV a)) (hla : a.length = M) (hM : M ≤ 1000) (sa : ∀ q ∈ a, Sz q 100000) :
    Calls Tryd.prog 115 #[va] w fun e w' => (∃ v, e = .returned v ∧ IsV w' (New w.heap.size w') v (rawV a)) ∧ Below w.heap.size w w' := by
  have HA := Lib.hid ha
  have Hla := Lib.hid hla
  have Hsa := Lib.hid sa
  obtain ⟨A, cA, rfl, _⟩ := zcm ha
  have ela : (rawV a).length = M := by simp [rawV, hla]
  rw [ela] at HA
  rw [ela]
  clear ha hla sa ela
  go_enter Tryd.func115, Tryd.ntmps115
  go_wp2_with (at_make; refine zdl elR rfl _ _ rfl IsR M rfl rfl rfl (by omega) (base := w.heap.size) (S := fun _ => False) (Nat.le_refl _) (fun b h => h.elim) ?_; intro v3 w3 hown3 hb3 hz3)
  have HB3 := Lib.hid hb3
  have Hown3 := Lib.hid hown3
  have Hz3 : Hid (w.heap.size ≤ w3.heap.size) := hz3
  clear hb3 hown3 hz3
  go_loopw [11, 3, 5] (fun i ov _ wr => ∃ (k : Nat) (S : Nat → Prop), k ≤ M ∧ i = .int .i64 (k : Int) ∧ Below w.heap.size w wr ∧ Hid (OwnS 3 50 IsR wr w.heap.size S ov (rawV (a.take k))) ∧ Hid (∀ b, S b → w.heap.size ≤ b)) (fun i _ _ _ => M - (intOf i).toNat)
  case atStart => exact ⟨0, fun _ => False, Nat.zero_le _, rfl, HB3.out, by simpa [rawV, Hid] using Hown3.out, fun b hb => hb.elim⟩
  case round =>
    obtain ⟨k, S, hk, rfl, hbw, hrel, hS⟩ := hrel
    have Hbw := Lib.hid hbw
    have Hown := Lib.hid hrel.out
    have HS1 := Lib.hid hS.out
    have hszw := hbw.size
    clear hrel hS
    rcases Nat.lt_or_ge k M with hlt | hge
    · obtain ⟨x, hx, hrx⟩ := zeh (l := a) (j := k) (by rw [Hla.out]; exact hlt)
      obtain ⟨b1, o1, X1, X2, X3, X4, rfl, hSb1, helx, c0, c1, c2⟩ := zdn HA.out hrx
      obtain ⟨x0, hx0⟩ : ∃ s, s = (raw x).neg := ⟨_, rfl⟩
      obtain ⟨x1, hx1⟩ : ∃ s, s = (raw x).num.length := ⟨_, rfl⟩
      obtain ⟨x2, hx2⟩ : ∃ s, s = (raw x).den.length := ⟨_, rfl⟩
      rw [← hx0] at c0
      rw [← hx1] at c1
      rw [← hx2] at c2
      rw [← hx0, ← hx1, ← hx2] at helx
      replace c0 := hbw.cell (p := ⟨b1, o1 + k * 3, none⟩) hSb1 |>.trans c0
      replace c1 := hbw.cell (p := ⟨b1, o1 + k * 3 + 1, none⟩) hSb1 |>.trans c1
      replace c2 := hbw.cell (p := ⟨b1, o1 + k * 3 + 2, none⟩) hSb1 |>.trans c2
      have Qx := Lib.hid (IsQ.stb.to (isR_isQ helx) (zba hbw))
      have Hend := Lib.hid hx
      have Hsx : Hid (Sz x 100000) := Hsa.out x (List.mem_of_getElem? hx)
      have cr := zbr
      have hk0 : (0 : Int) ≤ (k : Int) := by omega
      have hk1 : (k : Int) < (M : Int) := by omega
      obtain ⟨wx, hwx, hbx, rx, hzx⟩ := zcf wr #[.bool x0, .slice X1 x1 X2, .slice X3 x2 X4] 50
      have BX := Lib.hid hbx
      obtain ⟨g0, g1, g2⟩ := zad rx
      have Hhlt := Lib.hid hlt
      clear hx hrx helx hx0 hx1 hx2 hbw rx hzx hbx hSb1 hlt
      go_wp2_with fail
      clear hwx c0 c1 c2
      refine (clone_q (IsQ.stb.next Qx.out BX.out) Hsx.out).mono ?_
      rintro e w5 ⟨⟨v5, rfl, hv5⟩, hb5⟩
      obtain ⟨s5, P5, k5, O5, l5, rfl, _, _, _⟩ := zam hv5
      have BB5 := Lib.hid (zaa BX.out hb5)
      have hown5 := OwnS.step IsR.stb (T := fun b => S b ∨ (wr.heap.size ≤ b ∧ b < w5.heap.size)) Hown.out BB5.out (fun b h => .inl h) (fun b h => h)
      have hel5 := IsQ.stb.to hv5 (zay (T := fun b => S b ∨ (wr.heap.size ≤ b ∧ b < w5.heap.size)) fun b h => .inr ⟨Nat.le_trans BX.out.size h.1, h.2⟩)
      have HB5 := Lib.hid (zaa Hbw.out BB5.out)
      have hbase : w.heap.size ≤ w5.heap.size := HB5.out.size
      have hlt := Hhlt.out
      clear hb5 hv5 g0 g1 g2
      go_wp2_with (at_builtin; refine zcp elR rfl _ _ rfl IsR.stb rfl rfl rfl hown5 hel5 rfl (by intro u hu; simp [Value.cells] at hu; rcases hu with rfl | rfl | rfl <;> rfl) (by have h1 := List.length_take_le k a; rw [zbi]; omega) hbase ?_; intro v6 w6 hown6 hb6 hz6)
      go_roundw
      case rel =>
        refine ⟨k + 1, fun b => S b ∨ (wr.heap.size ≤ b ∧ b < w5.heap.size), hlt, by go_num, HB5.out.trans hb6, ?_, fun b hb => by rcases hb with hb | hb; exact HS1.out b hb; exact Nat.le_trans hszw hb.1⟩
        rw [zda Hend.out, zem]
        exact hown6
      case measure => simp [intOf]; omega
    · obtain rfl : k = M := by omega
      have e : a.take k = a := List.take_of_length_le (by rw [Hla.out]; exact Nat.le_refl _)
      rw [e] at Hown
      have hV : IsV wr (New w.heap.size wr) _ (rawV a) := OwnS.isS IsR.stb (T := New w.heap.size wr) Hown.out (fun b hb => ⟨HS1.out b hb, by obtain ⟨_, _, _, _, h4⟩ := Hown.out; exact (h4 b hb).1⟩) (fun b h1 h2 => ⟨h1, h2⟩)
      have HVV := Lib.hid hV
      clear hV e hbw
      go_wp2_with fail
      go_ret
      exact ⟨⟨_, rfl, HVV.out⟩, Hbw.out⟩
set_option maxRecDepth 100000 in
set_option maxHeartbeats 4000000 in
theorem rows_l {w : World} {va : Value} {a : List (List Rat)} {M : Nat} (ha : IsM w (Old w) va (rawM a)) (hla : a.length = M) (hM : M ≤ 1000) (hr : ∀ r ∈ a, r.length ≤ 1000) (sa : ∀ r ∈ a, ∀ q ∈ r, Sz q 100000) :
    Calls Tryd.prog 84 #[va] w fun e w' => (∃ v, e = .returned v ∧ IsM w' (New w.heap.size w') v (rawM a)) ∧ Below w.heap.size w w' := by
  have HA := Lib.hid ha
  have Hla := Lib.hid hla
  have Hsa := Lib.hid sa
  have Hr := Lib.hid hr
  obtain ⟨A, cA, rfl, _⟩ := zca ha
  have ela : (rawM a).length = M := by simp [rawM, hla]
  rw [ela] at HA
  rw [ela]
  clear ha hla sa ela hr
  go_enter Tryd.func84, Tryd.ntmps84
  go_wp2_with (at_make; refine zdl elV rfl _ _ rfl IsV M rfl rfl rfl (by omega) (base := w.heap.size) (S := fun _ => False) (Nat.le_refl _) (fun b h => h.elim) ?_; intro v3 w3 hown3 hb3 hz3)
  have HB3 := Lib.hid hb3
  have Hown3 := Lib.hid hown3
  clear hb3 hown3 hz3
  go_loopw [11, 3, 5] (fun i ov _ wr => ∃ (k : Nat) (S : Nat → Prop), k ≤ M ∧ i = .int .i64 (k : Int) ∧ Below w.heap.size w wr ∧ Hid (OwnS 1 29 IsV wr w.heap.size S ov (rawM (a.take k))) ∧ Hid (∀ b, S b → w.heap.size ≤ b)) (fun i _ _ _ => M - (intOf i).toNat)
  case atStart => exact ⟨0, fun _ => False, Nat.zero_le _, rfl, HB3.out, by simpa [rawM, Hid] using Hown3.out, fun b hb => hb.elim⟩
  case round =>
    obtain ⟨k, S, hk, rfl, hbw, hrel, hS⟩ := hrel
    have Hbw := Lib.hid hbw
    have Hown := Lib.hid hrel.out
    have HS1 := Lib.hid hS.out
    have hszw := hbw.size
    clear hrel hS
    rcases Nat.lt_or_ge k M with hlt | hge
    · obtain ⟨x, hx, hrx⟩ := zeg (m := a) (j := k) (by rw [Hla.out]; exact hlt)
      obtain ⟨b1, o1, X1, X2, rfl, hSb1, helx, c0⟩ := zcr HA.out hrx
      rw [zbi] at c0 helx
      obtain ⟨lx, hlx⟩ : ∃ n, n = x.length := ⟨_, rfl⟩
      rw [← hlx] at c0 helx
      replace c0 := hbw.cell (p := ⟨b1, o1 + k, none⟩) hSb1 |>.trans c0
      have Vx := Lib.hid (IsV.stb.to helx (zba hbw))
      have Hend := Lib.hid hx
      have Hlx := Lib.hid hlx
      have Hsx : Hid (∀ q ∈ x, Sz q 100000) := Hsa.out x (List.mem_of_getElem? hx)
      have hlr := Hr.out x (List.mem_of_getElem? hx)
      have hk0 : (0 : Int) ≤ (k : Int) := by omega
      have hk1 : (k : Int) < (M : Int) := by omega
      have Hhlt := Lib.hid hlt
      clear hx hrx helx hlx hbw hSb1 hlt
      go_wp2_with fail
      refine (clones_l (M := lx) Vx.out Hlx.out.symm (by rw [Hlx.out]; exact hlr) Hsx.out).mono ?_
      rintro e w5 ⟨⟨v5, rfl, hv5⟩, hb5⟩
      obtain ⟨P5, k5, rfl, _⟩ := zcm hv5
      have hown5 := OwnS.step IsV.stb (T := fun b => S b ∨ (wr.heap.size ≤ b ∧ b < w5.heap.size)) Hown.out hb5 (fun b h => .inl h) (fun b h => h)
      have hel5 := IsV.stb.to hv5 (zay (T := fun b => S b ∨ (wr.heap.size ≤ b ∧ b < w5.heap.size)) fun b h => .inr h)
      have HB5 := Lib.hid (zaa Hbw.out hb5)
      have hbase : w.heap.size ≤ w5.heap.size := HB5.out.size
      have hlt := Hhlt.out
      clear hb5 hv5 c0
      go_wp2_with (at_builtin; refine zcp elV rfl _ _ rfl IsV.stb rfl rfl rfl hown5 hel5 rfl (by intro u hu; simp [Value.cells] at hu; subst hu; rfl) (by have h1 := List.length_take_le k a; rw [zbs]; omega) hbase ?_; intro v6 w6 hown6 hb6 hz6)
      go_roundw
      case rel =>
        refine ⟨k + 1, fun b => S b ∨ (wr.heap.size ≤ b ∧ b < w5.heap.size), hlt, by go_num, HB5.out.trans hb6, ?_, fun b hb => by rcases hb with hb | hb; exact HS1.out b hb; exact Nat.le_trans hszw hb.1⟩
        rw [zda Hend.out, rawM, List.map_append]
        exact hown6
      case measure => simp [intOf]; omega
    · obtain rfl : k = M := by omega
      have e : a.take k = a := List.take_of_length_le (by rw [Hla.out]; exact Nat.le_refl _)
      rw [e] at Hown
      have hV : IsM wr (New w.heap.size wr) _ (rawM a) := OwnS.isS IsV.stb (T := New w.heap.size wr) Hown.out (fun b hb => ⟨HS1.out b hb, by obtain ⟨_, _, _, _, h4⟩ := Hown.out; exact (h4 b hb).1⟩) (fun b h1 h2 => ⟨h1, h2⟩)
      have HVV := Lib.hid hV
      clear hV e hbw
      go_wp2_with fail
      go_ret
      exact ⟨⟨_, rfl, HVV.out⟩, Hbw.out⟩
theorem bndV_ok {v : Value} {l : List Rat} (h : ∀ q ∈ l, Sz q 1024) : bndV v l = .returned (.tuple #[v, .int .i64 0]) := by
  unfold bndV
  have e : l.all fitsQ = true := List.all_eq_true.2 fun q hq => fitsQ_true.2 (h q hq)
  rw [e]
  rfl
theorem bndM_ok {v : Value} {m : List (List Rat)} (h : ∀ r ∈ m, ∀ q ∈ r, Sz q 1024) : bndM v m = .returned (.tuple #[v, .int .i64 0]) := by
  unfold bndM
  have e : (m.all fun l => l.all fitsQ) = true := List.all_eq_true.2 fun r hr => List.all_eq_true.2 fun q hq => fitsQ_true.2 (h r hr q hq)
  rw [e]
  rfl
theorem col_head {M : List (List Rat)} {n m : Nat} (hn : M.length = n) (hn1 : 1 ≤ n) (hrow : ∀ r ∈ M, r.length = m) : ((rawM M).headD []).length = m := by
  cases M with
  | nil => simp at hn; omega
  | cons a t => simp only [rawM, List.map_cons, List.headD_cons]; rw [zbi]; exact hrow a (by simp)
theorem turnQ_row {M : List (List Rat)} {n m : Nat} (hn : M.length = n) : ∀ r ∈ zdx M m, r.length = n := fun r hr => by
  obtain ⟨c, _, rfl⟩ := List.mem_map.1 hr
  rw [colT_len, hn]
theorem turnQ_len (M : List (List Rat)) (m : Nat) : (zdx M m).length = m := by simp [zdx]
theorem turnQ_sz {M : List (List Rat)} {m k : Nat} (hrow : ∀ r ∈ M, r.length = m) (hs : ∀ r ∈ M, ∀ q ∈ r, Sz q k) : ∀ r ∈ zdx M m, ∀ q ∈ r, Sz q k := fun r hr q hq => by
  obtain ⟨c, hc, rfl⟩ := List.mem_map.1 hr
  obtain ⟨x, hx, rfl⟩ := List.mem_map.1 hq
  have hc' : c < x.length := by rw [hrow x hx]; exact List.mem_range.1 hc
  rw [List.getD_eq_getElem?_getD, List.getElem?_eq_getElem hc']
  exact hs x hx _ (List.getElem_mem _)
set_option maxHeartbeats 1000000 in
theorem vTurn_good {w : World} {v : Value} {M : List (List Rat)} {n m : Nat} (h : IsM w (Old w) v (rawM M)) (hB : Bru w) (hn : M.length = n) (hrow : ∀ r ∈ M, r.length = m) (hn1 : 1 ≤ n) (hn9 : n ≤ 40) (hm9 : m ≤ 40) (hf : chkM (rawM M) = 0) (hs : ∀ r ∈ M, ∀ q ∈ r, Sz q 1024) :
    Calls Tryd.prog 37 #[v] w fun e w' => (∃ v', e = .returned (.tuple #[v', .int .i64 0]) ∧ IsM w' (Old w') v' (rawM (zdx M m))) ∧ Below w.heap.size w w' := by
  have HM := Lib.hid h
  have HF := Lib.hid hf
  have HB := Lib.hid hB
  have Hs := Lib.hid hs
  have Hrow := Lib.hid hrow
  clear h hf hB hs hrow
  go_enter Tryd.func37, Tryd.ntmps37
  go_wp2_with fail
  refine (form_l HM.out HB.out).mono ?_
  rw [HF.out]
  rintro e w1 ⟨rfl, hb1⟩
  have HB1 := Lib.hid hb1
  clear hb1
  go_wp2_with fail
  refine (turned_l (IsM.stb.next HM.out HB1.out) hn Hrow.out hn1 hn9 hm9).mono ?_
  rintro e w2 ⟨⟨v2, rfl, hv2⟩, hb2⟩
  have V2 := Lib.hid hv2
  have HB2 := Lib.hid (zaa HB1.out hb2)
  clear hv2 hb2
  go_wp2_with fail
  refine (rows_l (M := m) V2.out (turnQ_len M m) (by omega) (fun r hr => by rw [turnQ_row hn r hr]; omega) (fun r hr q hq => (turnQ_sz Hrow.out Hs.out r hr q hq).le (by omega))).mono ?_
  rintro e w3 ⟨⟨v3, rfl, hv3⟩, hb3⟩
  have V3 := Lib.hid (IsM.stb.old hv3)
  have HB3 := Lib.hid (zaa HB2.out hb3)
  clear hv3 hb3
  go_wp2_with fail
  go_ret2
  exact ⟨⟨_, rfl, V3.out⟩, HB3.out⟩
def lineQ (r : List Rat) (N : List (List Rat)) (p : Nat) : List Rat := (zdx N p).map (dotQ r)
def mulQ (M N : List (List Rat)) (p : Nat) : List (List Rat) := M.map fun r => lineQ r N p
theorem mulQ_len (M N : List (List Rat)) (p : Nat) : (mulQ M N p).length = M.length := List.length_map _
theorem lineQ_len (r : List Rat) (N : List (List Rat)) (p : Nat) : (lineQ r N p).length = p := by simp [lineQ, turnQ_len]
theorem mulQ_at {M N : List (List Rat)} {p k : Nat} {r : List Rat} (h : M[k]? = some r) : (mulQ M N p)[k]? = some (lineQ r N p) := by
  unfold mulQ
  rw [List.getElem?_map, h]
  rfl
theorem lineQ_at {N : List (List Rat)} {p k : Nat} {r c : List Rat} (h : (zdx N p)[k]? = some c) : (lineQ r N p)[k]? = some (dotQ r c) := by
  unfold lineQ
  rw [List.getElem?_map, h]
  rfl
set_option maxRecDepth 100000 in
set_option maxHeartbeats 4000000 in
theorem vMul_good {w : World} {v vn : Value} {M N : List (List Rat)} {n m p : Nat} (h : IsM w (Old w) v (rawM M)) (hN : IsM w (Old w) vn (rawM N)) (hB : Bru w) (hn : M.length = n) (hrow : ∀ r ∈ M, r.length = m) (hn1 : 1 ≤ n) (hn9 : n ≤ 40) (hm1 : 1 ≤ m) (hm9 : m ≤ 40) (hNl : N.length = m) (hNr : ∀ r ∈ N, r.length = p) (hp9 : p ≤ 40)
    (hf : chkM (rawM M) = 0) (hfN : chkM (rawM N) = 0) (hs : ∀ r ∈ M, ∀ q ∈ r, Sz q 1024) (hsN : ∀ r ∈ N, ∀ q ∈ r, Sz q 1024) (hfit : ∀ r ∈ mulQ M N p, ∀ q ∈ r, Sz q 1024) :
    Calls Tryd.prog 40 #[v, vn] w fun e w' => (∃ v', e = .returned (.tuple #[v', .int .i64 0]) ∧ IsM w' (Old w') v' (rawM (mulQ M N p))) ∧ Below w.heap.size w w' := by
  have HM := Lib.hid h
  have HN := Lib.hid hN
  have HF := Lib.hid hf
  have HFN := Lib.hid hfN
  have HB := Lib.hid hB
  have Hs := Lib.hid hs
  have HsN := Lib.hid hsN
  have Hrow := Lib.hid hrow
  have HNr := Lib.hid hNr
  have Hfit := Lib.hid hfit
  have Hn := Lib.hid hn
  have HNl := Lib.hid hNl
  have hcol := Lib.hid (col_head hn hn1 hrow)
  obtain ⟨A, cA, rfl, _⟩ := zca h
  obtain ⟨X, cX, rfl, _⟩ := zca hN
  have eln : (rawM M).length = n := by rw [zbs]; exact hn
  have elx : (rawM N).length = m := by rw [zbs]; exact hNl
  rw [eln] at HM
  rw [elx] at HN
  rw [eln, elx]
  clear h hN hf hfN hB hs hsN hrow hNr hfit hn hNl eln elx
  go_enter Tryd.func40, Tryd.ntmps40
  go_wp2_with fail
  refine (form_l HM.out HB.out).mono ?_
  rw [HF.out]
  rintro e w1 ⟨rfl, hb1⟩
  have HB1 := Lib.hid hb1
  clear hb1
  go_wp2_with fail
  refine (form_l (IsM.stb.next HN.out HB1.out) (Bru.next HB.out HB1.out)).mono ?_
  rw [HFN.out]
  rintro e w2 ⟨rfl, hb2⟩
  have HB2 := Lib.hid (zaa HB1.out hb2)
  have hn0 : (0 : Int) < (n : Int) := by omega
  clear hb2
  go_wp2_with fail
  refine (zfr (IsM.stb.next HM.out HB2.out)).mono ?_
  rw [hcol.out]
  rintro e w2' ⟨rfl, rfl⟩
  go_wp2_with fail
  refine (turned_l (n := m) (m := p) (IsM.stb.next HN.out HB2.out) HNl.out HNr.out hm1 hm9 hp9).mono ?_
  rintro e w3 ⟨⟨v3, rfl, hv3⟩, hb3⟩
  obtain ⟨Y, cY, rfl, _⟩ := zca hv3
  have ely : (rawM (zdx N p)).length = p := by rw [zbs, turnQ_len]
  rw [ely] at hv3 ⊢
  have HT := Lib.hid hv3
  have HB3 := Lib.hid (zaa HB2.out hb3)
  clear hv3 hb3 ely
  go_wp2_with (at_make; refine zdl elV rfl _ _ rfl IsV n rfl rfl rfl (by omega) (base := w3.heap.size) (S := fun _ => False) (Nat.le_refl _) (fun b h => h.elim) ?_; intro v4 w4 hown4 hb4 hz4)
  have HB4 := Lib.hid hb4
  have Hown4 := Lib.hid hown4
  clear hb4 hown4 hz4 hn0
  go_loopw [42, 9, 11, 12, 14] (fun i ov _ _ _ wr => ∃ (k : Nat) (S : Nat → Prop), k ≤ n ∧ i = .int .i64 (k : Int) ∧ Below w3.heap.size w3 wr ∧ Hid (OwnS 1 29 IsV wr w3.heap.size S ov (rawM ((mulQ M N p).take k))) ∧ Hid (∀ b, S b → w3.heap.size ≤ b)) (fun i _ _ _ _ _ => n - (intOf i).toNat)
  case atStart => exact ⟨0, fun _ => False, Nat.zero_le _, rfl, HB4.out, by simpa [rawM, Hid] using Hown4.out, fun b hb => hb.elim⟩
  case round =>
    clear HB4 Hown4
    obtain ⟨wo, hwo⟩ : ∃ x, x = wr := ⟨_, rfl⟩
    obtain ⟨k, S, hk, rfl, hbw, hrel, hS⟩ := hrel
    have Hbw := Lib.hid hbw
    have Hown := Lib.hid hrel.out
    have HS1 := Lib.hid hS.out
    have hszw := hbw.size
    clear hrel hS
    rcases Nat.lt_or_ge k n with hlt | hge
    · obtain ⟨r, hr, hrr⟩ := zeg (m := M) (j := k) (by rw [Hn.out]; exact hlt)
      obtain ⟨b1, o1, R, cR, rfl, hSb1, helr, c0⟩ := zcr HM.out hrr
      have elr : (rawV r).length = m := by rw [zbi]; exact Hrow.out r (List.mem_of_getElem? hr)
      rw [elr] at c0 helr
      have hww := zaa HB3.out hbw
      replace c0 := hww.cell (p := ⟨b1, o1 + k, none⟩) hSb1 |>.trans c0
      have Vr := Lib.hid (IsV.stb.to helr (zba hww))
      have VT' := Lib.hid (IsM.stb.next HT.out hbw)
      have HR := Lib.hid (List.mem_of_getElem? hr)
      have Hend : Hid ((mulQ M N p)[k]? = some (lineQ r N p)) := mulQ_at hr
      have Hwr := Lib.hid hww
      have hk0 : (0 : Int) ≤ (k : Int) := by omega
      have hk1 : (k : Int) < (n : Int) := by omega
      have Hhlt := Lib.hid hlt
      clear hr hrr helr elr hbw hSb1 hlt hww
      go_wp2_with (at_make; refine zdl elR rfl _ _ rfl IsR p rfl rfl rfl (by omega) (base := wr.heap.size) (S := fun _ => False) (Nat.le_refl _) (fun b h => h.elim) ?_; intro v5 w5 hown5 hb5 hz5)
      have HB5 := Lib.hid hb5
      have Hown5 := Lib.hid hown5
      clear hb5 hown5 hz5 c0
      rw [← hwo] at HB5 Hown5 Hown Hbw Vr VT' Hwr hszw
      clear hwo
      go_loopw [51, 12, 14] (fun jj lv _ wr => ∃ (j : Nat) (S2 : Nat → Prop), j ≤ p ∧ jj = .int .i64 (j : Int) ∧ Below wo.heap.size wo wr ∧ Hid (OwnS 3 50 IsR wr wo.heap.size S2 lv (rawV ((lineQ r N p).take j))) ∧ Hid (∀ b, S2 b → wo.heap.size ≤ b)) (fun jj _ _ _ => p - (intOf jj).toNat)
      case atStart => exact ⟨0, fun _ => False, Nat.zero_le _, rfl, HB5.out, by simpa [rawV, Hid] using Hown5.out, fun b hb => hb.elim⟩
      case round =>
        clear HB5 Hown5
        obtain ⟨j, S2, hj, rfl, hbi, hrel, hS2⟩ := hrel
        have Hbi := Lib.hid hbi
        have OI := Lib.hid hrel.out
        have HS2 := Lib.hid hS2.out
        have hszi := hbi.size
        clear hrel hS2
        rcases Nat.lt_or_ge j p with hjp | hjp
        · obtain ⟨c, hc, hcc⟩ := zeg (m := zdx N p) (j := j) (by rw [turnQ_len]; exact hjp)
          obtain ⟨b2, o2, Cc, cC, rfl, hSb2, helc, d0⟩ := zcr VT'.out hcc
          have HC := Lib.hid (List.mem_of_getElem? hc)
          have elc : (rawV c).length = m := by rw [zbi]; exact turnQ_row HNl.out c HC.out
          rw [elc] at d0 helc
          replace d0 := hbi.cell (p := ⟨b2, o2 + j, none⟩) hSb2 |>.trans d0
          have Vc := Lib.hid (IsV.stb.next helc hbi)
          have Vr2 := Lib.hid (IsV.stb.next Vr.out hbi)
          have Hat : Hid ((lineQ r N p)[j]? = some (dotQ r c)) := lineQ_at hc
          have hj0 : (0 : Int) ≤ (j : Int) := by omega
          have hj1 : (j : Int) < (p : Int) := by omega
          have Hjp := Lib.hid hjp
          clear hc hcc helc elc hbi hSb2 hjp
          go_wp2_with fail
          refine (vdot_q (M := m) Vr2.out Vc.out (Bru.next HB.out (zaa Hwr.out Hbi.out)) (Hrow.out r HR.out) (turnQ_row HNl.out c HC.out) hm9 (Hs.out r HR.out) (turnQ_sz HNr.out HsN.out c HC.out)).mono ?_
          rintro e w6 ⟨⟨v6, rfl, hv6⟩, hb6⟩
          obtain ⟨s6, P6, k6, O6, l6, rfl, _, _, _⟩ := zam hv6
          have hown6 := OwnS.step IsR.stb (T := fun b => S2 b ∨ (wr.heap.size ≤ b ∧ b < w6.heap.size)) OI.out hb6 (fun b h => .inl h) (fun b h => h)
          have hel6 := IsQ.stb.to hv6 (zay (T := fun b => S2 b ∨ (wr.heap.size ≤ b ∧ b < w6.heap.size)) fun b h => .inr h)
          have HB6 := Lib.hid (zaa Hbi.out hb6)
          have hbase : wo.heap.size ≤ w6.heap.size := HB6.out.size
          have hjp := Hjp.out
          clear hb6 hv6 d0
          go_wp2_with (at_builtin; refine zcp elR rfl _ _ rfl IsR.stb rfl rfl rfl hown6 hel6 rfl (by intro u hu; simp [Value.cells] at hu; rcases hu with rfl | rfl | rfl <;> rfl) (by have h1 := List.length_take_le j (lineQ r N p); rw [zbi]; omega) hbase ?_; intro v7 w7 hown7 hb7 hz7)
          go_roundw
          case rel =>
            refine ⟨j + 1, fun b => S2 b ∨ (wr.heap.size ≤ b ∧ b < w6.heap.size), hjp, by go_num, HB6.out.trans hb7, ?_, fun b hb => by rcases hb with hb | hb; exact HS2.out b hb; exact Nat.le_trans hszi hb.1⟩
            rw [zda Hat.out, zem]
            exact hown7
          case measure => simp [intOf]; omega
        · obtain rfl : j = p := by omega
          have e : (lineQ r N j).take j = lineQ r N j := List.take_of_length_le (by rw [lineQ_len]; exact Nat.le_refl _)
          rw [e] at OI
          obtain ⟨L, cL, hL⟩ := OI.out.slice
          subst hL
          have hel := OwnS.isS IsR.stb (T := fun b => S b ∨ (wo.heap.size ≤ b ∧ b < wr.heap.size)) OI.out (fun b hb => .inr ⟨HS2.out b hb, by obtain ⟨_, _, _, _, h4⟩ := OI.out; exact (h4 b hb).1⟩) (fun b h1 h2 => .inr ⟨h1, h2⟩)
          have hown := OwnS.step IsV.stb (T := fun b => S b ∨ (wo.heap.size ≤ b ∧ b < wr.heap.size)) Hown.out Hbi.out (fun b h => .inl h) (fun b h => h)
          have HBi := Lib.hid (zaa Hbw.out Hbi.out)
          have hbase : w3.heap.size ≤ wr.heap.size := HBi.out.size
          have hlt := Hhlt.out
          clear e hbi
          go_wp2_with (at_builtin; refine zcp elV rfl _ _ rfl IsV.stb rfl rfl rfl hown hel rfl (by intro u hu; simp [Value.cells] at hu; subst hu; rfl) (by have h1 := List.length_take_le k (mulQ M N j); rw [zbs]; omega) hbase ?_; intro v8 w8 hown8 hb8 hz8)
          go_roundw
          case rel =>
            refine ⟨k + 1, fun b => S b ∨ (wo.heap.size ≤ b ∧ b < wr.heap.size), hlt, by go_num, HBi.out.trans hb8, ?_, fun b hb => by rcases hb with hb | hb; exact HS1.out b hb; exact Nat.le_trans hszw hb.1⟩
            rw [zda Hend.out, rawM, List.map_append]
            exact hown8
          case measure => simp [intOf]; omega
    · obtain rfl : k = n := by omega
      have e : (mulQ M N p).take k = mulQ M N p := List.take_of_length_le (by rw [mulQ_len, Hn.out]; exact Nat.le_refl _)
      rw [e] at Hown
      have hV : IsM wr (Old wr) _ (rawM (mulQ M N p)) := OwnS.isS IsV.stb (T := Old wr) Hown.out (fun b hb => by obtain ⟨_, _, _, _, h4⟩ := Hown.out; exact (h4 b hb).1) (fun b h1 h2 => h2)
      have HVV := Lib.hid hV
      clear hV e hbw hwo
      go_wp2_with fail
      refine (boundedRows_l HVV.out).mono ?_
      rw [bndM_ok Hfit.out]
      rintro e w9 ⟨rfl, hb9⟩
      have HB9 := Lib.hid (zaa (zaa HB3.out Hbw.out) hb9)
      have V9 := Lib.hid (IsM.stb.next HVV.out hb9)
      clear hb9
      go_wp2_with fail
      go_ret2
      exact ⟨⟨_, rfl, V9.out⟩, HB9.out⟩
def IsPv (w : World) (S : Nat → Prop) (v : Value) (l : List Nat) : Prop := ∃ A c, v = .slice A l.length c ∧ IsS 1 IsVal w S (.slice A l.length c) (l.map fun (k : Nat) => Value.int .i64 (k : Int))
theorem IsPv.stb : Stb IsPv := fun w w' S T v l ⟨A, c, e, h⟩ hs => ⟨A, c, e, (IsS.stb IsVal.stb).to h hs⟩
def zdu (s : RS) (m f : Nat) : Nat → List Rat
  | 0 => (List.replicate m 0).set f 1
  | t + 1 => (zdu s m f t).set (s.piv.getD t 0) (-(atQ s.A s.piv.length s.d t f))
theorem kerTo_len (s : RS) (m f t : Nat) : (zdu s m f t).length = m := by
  induction t with
  | zero => rw [zdu, List.length_set, List.length_replicate]
  | succ t ih => rw [zdu, List.length_set, ih]
def kerQ (s : RS) (m : Nat) : Nat → List (List Rat)
  | 0 => []
  | k + 1 => if k ∈ s.piv then kerQ s m k else kerQ s m k ++ [zdu s m k s.piv.length]
theorem kerQ_in {s : RS} {m k : Nat} (h : k ∈ s.piv) : kerQ s m (k + 1) = kerQ s m k := by rw [kerQ, if_pos h]
theorem kerQ_out {s : RS} {m k : Nat} (h : k ∉ s.piv) : kerQ s m (k + 1) = kerQ s m k ++ [zdu s m k s.piv.length] := by rw [kerQ, if_neg h]
theorem kerQ_len (s : RS) (m k : Nat) : (kerQ s m k).length ≤ k := by
  induction k with
  | zero => exact Nat.le_refl _
  | succ k ih =>
    by_cases h : k ∈ s.piv
    · rw [kerQ_in h]; omega
    · rw [kerQ_out h, List.length_append]; simp; omega
theorem bool_info : (Tryd.prog.info? 4).map (fun i => (i.zero, i.size, i.bytes)) = some (some (.bool false), 1, 1) := by kernel_rfl
theorem boolZ : ElT Tryd.prog 111 4 (.bool false) 1 :=
  ⟨Tryd.underlying111, by obtain ⟨i, h1, h2, h3, h4⟩ := info_parts bool_info; exact ⟨i, h1, h2, h3, h4⟩, rfl⟩
def pivB (s : RS) (t c : Nat) : Value := .bool (decide (c ∈ s.piv.take t))
theorem pivB_next {s : RS} {t cc c : Nat} (h : s.piv[t]? = some cc) : updF (pivB s t) cc (.bool true) c = pivB s (t + 1) c := by
  unfold updF pivB
  rw [zda h]
  by_cases hc : c = cc
  · rw [if_pos hc, decide_eq_true (by rw [hc]; simp)]
  · rw [if_neg hc]
    congr 1
    rw [decide_eq_decide]
    simp [hc]
set_option maxRecDepth 100000 in
set_option maxHeartbeats 8000000 in
theorem kernel_l {w : World} {v : Value} {M : List (List Rat)} {n m : Nat} {s : RS} (h : IsM w (Old w) v (rawM M)) (hB : Bru w) (hn : M.length = n) (hrow : ∀ r ∈ M, r.length = m) (hs : ∀ r ∈ M, ∀ q ∈ r, Sz q 1024) (hn1 : 1 ≤ n) (hn9 : n ≤ 40) (hm1 : 1 ≤ m) (hm9 : m ≤ 40) (hf : chkM (rawM M) = 0)
    (hbnd : ∀ k, k ≤ m → BndS n m (runK n m (zbj M) k)) (hsr : s = runK n m (zbj M) m) (hat : ∀ t f, t < s.piv.length → f < m → Sz (atQ s.A s.piv.length s.d t f) 1024) (hfit : ∀ r ∈ kerQ s m m, ∀ q ∈ r, Sz q 1024) :
    Calls Tryd.prog 26 #[v] w fun e w' => (∃ v', e = .returned (.tuple #[v', .int .i64 0]) ∧ IsM w' (Old w') v' (rawM (kerQ s m m))) ∧ Below w.heap.size w w' := by
  have HM := Lib.hid h
  have HB := Lib.hid hB
  have Hn := Lib.hid hn
  have Hs := Lib.hid hs
  have Hrow := Lib.hid hrow
  have HF := Lib.hid hf
  have Hbnd := Lib.hid hbnd
  have Hsr := Lib.hid hsr
  have Hat := Lib.hid hat
  have Hfit := Lib.hid hfit
  have hcol := Lib.hid (col_head hn hn1 hrow)
  have hcm : ∀ t cc, s.piv[t]? = some cc → cc < m := fun t cc h => by
    have h := List.mem_of_getElem? h
    rw [hsr] at h
    exact runK_piv m cc h
  have Hcm := Lib.hid hcm
  obtain ⟨A, cA, rfl, _⟩ := zca h
  have eln : (rawM M).length = n := by rw [zbs]; exact hn
  rw [eln] at HM
  rw [eln]
  clear h hB hn hs hrow hf hbnd hsr hfit eln hat hcm
  go_enter Tryd.func26, Tryd.ntmps26
  go_wp2_with fail
  refine (form_l HM.out HB.out).mono ?_
  rw [HF.out]
  rintro e w1 ⟨rfl, hb1⟩
  have HB1 := Lib.hid hb1
  clear hb1
  go_wp2_with fail
  refine (zfr (IsM.stb.next HM.out HB1.out)).mono ?_
  rw [hcol.out]
  rintro e w1' ⟨rfl, rfl⟩
  go_wp2_with fail
  have hc := reduced_l (IsM.stb.next HM.out HB1.out) (Bru.next HB.out HB1.out) Hn.out Hrow.out Hs.out hn1 hn9 hm1 (by omega) (width := m) (Nat.le_refl m) Hbnd.out
  rw [← Hsr.out] at hc
  refine hc.mono ?_
  clear hc
  rintro e w3 ⟨⟨v3, rfl, hg⟩, hb3⟩
  obtain ⟨G, r0, c0, S', rb, cp, Pv, D, cv, cd, rfl, hGr⟩ := hg
  have HG := Lib.hid hGr
  have HW3 := Lib.hid (zaa HB1.out hb3)
  obtain ⟨np, hnp⟩ : ∃ x, x = s.piv.length := ⟨_, rfl⟩
  have Hnp := Lib.hid hnp
  have hlp : np ≤ n := by rw [hnp, Hsr.out]; exact runK_len m
  clear hb3 hGr hnp
  go_wp2_with (at_make; refine wp_makeZ boolZ rfl rfl _ _ rfl m rfl rfl rfl rfl (by omega) ?_; intro w4 hr4 hb4 hz4; have g1 : w4.cell? ⟨G, 1, none⟩ = some (.slice Pv np cv) := (by rw [Hnp.out]; exact (HG.out.row.next hb4).cell 1))
  obtain ⟨PB, hPB⟩ : ∃ b, b = w3.heap.size := ⟨_, rfl⟩
  rw [← hPB] at hr4 ⊢
  have HB4 := Lib.hid hb4
  have HPB := Lib.hid hPB
  have R4 : Hid (Row w4 PB 4 ((List.range m).map (pivB s 0))) := by
    rw [Hid, show (List.range m).map (pivB s 0) = List.replicate m (.bool false) by
      rw [show pivB s 0 = fun _ => Value.bool false from funext fun c => by unfold pivB; rw [List.take_zero, decide_eq_false (by simp)], List.map_const', List.length_range]]
    exact hr4
  clear hr4 hb4 hz4 hPB g1
  go_loopw [32, 9] (fun ii _ wr => ∃ t : Nat, t ≤ np ∧ ii = .int .i64 (t : Int) ∧ Below w3.heap.size w3 wr ∧ Hid (Row wr PB 4 ((List.range m).map (pivB s t)))) (fun ii _ _ => np - (intOf ii).toNat)
  case atStart => exact ⟨0, Nat.zero_le _, rfl, HB4.out, R4.out⟩
  case round =>
    obtain ⟨t, ht, rfl, hbt, hR⟩ := hrel
    have HBt := Lib.hid hbt
    have HR := Lib.hid hR.out
    rcases Nat.lt_or_ge t np with hlt | hge
    · obtain ⟨cc, hcc⟩ : ∃ cc, s.piv[t]? = some cc := ⟨_, List.getElem?_eq_getElem (by rw [← Hnp.out]; exact hlt)⟩
      have hcm := Hcm.out t cc hcc
      have hpv := (IsS.stb IsVal.stb).to HG.out.piv (zba hbt)
      rw [← Hnp.out] at hpv
      obtain ⟨bp, op, ev, rfl, _, hRe, _, hcell⟩ := IsS.get hpv (by omega) (j := t) (x := .int .i64 (cc : Int)) (by rw [List.getElem?_map, hcc]; rfl)
      have hRe : ev = .int .i64 (cc : Int) := hRe
      subst hRe
      have p0 := hcell 0 _ rfl
      rw [Nat.mul_one, Nat.add_zero] at p0
      have q0 : wr.cell? ⟨PB, cc, none⟩ = some (pivB s t cc) := (HR.out.cell cc).trans (by simp [hcm])
      have f0 : wr.frozen? ⟨PB, cc, none⟩ = false := HR.out.frozen cc
      have Hcc := Lib.hid hcc
      have hc0 : (0 : Int) ≤ (cc : Int) := by omega
      have hc1 : (cc : Int) < (m : Int) := by omega
      have ht0 : (0 : Int) ≤ (t : Int) := by omega
      have ht1 : (t : Int) < (np : Int) := by omega
      have Hlt := Lib.hid hlt
      have Hcm1 := Lib.hid hcm
      clear hcc hpv hcell hbt hR hlt hcm
      unfold pivB at q0
      go_wp2_with fail
      clear p0 q0 f0
      go_roundw
      case rel =>
        refine ⟨t + 1, Hlt.out, by go_num, HBt.out.setCell (p := ⟨PB, cc, none⟩) (by show w3.heap.size ≤ PB; rw [HPB.out]; exact Nat.le_refl _) _, ?_⟩
        have hset := HR.out.set_ cc (.bool true)
        rw [← range_upd _ _ Hcm1.out, List.map_congr_left (g := pivB s (t + 1)) fun c _ => pivB_next Hcc.out] at hset
        exact hset
      case measure => have := Hlt.out; simp [intOf]; omega
    · obtain rfl : t = np := by omega
      obtain ⟨w5, hw5⟩ : ∃ x, x = wr := ⟨_, rfl⟩
      have hB5 := Lib.hid HBt.out
      have hR5 := Lib.hid HR.out
      rw [← hw5] at hB5 hR5
      have Htake : Hid (s.piv.take t = s.piv) := List.take_of_length_le (by rw [← Hnp.out]; exact Nat.le_refl _)
      have htt : ¬ t < t := by omega
      clear hbt hR HR HBt R4 HB4
      go_wp2_with fail
      rw [← hw5]
      clear hw5
      go_loopw [41, 10, 11, 12, 13, 14] (fun ii ov _ _ _ _ wr => ∃ (k : Nat) (S : Nat → Prop), k ≤ m ∧ ii = .int .i64 (k : Int) ∧ Below w5.heap.size w5 wr ∧ Hid (OwnS 1 29 IsV wr w5.heap.size S ov (rawM (kerQ s m k)))) (fun ii _ _ _ _ _ _ => m - (intOf ii).toNat)
      case atStart => exact ⟨0, fun _ => False, Nat.zero_le _, rfl, Below.refl _ _, OwnS.nil (fun b hb => hb.elim)⟩
      case round =>
        obtain ⟨wo, rfl⟩ : ∃ x, x = wr := ⟨_, rfl⟩
        obtain ⟨k, S, hk, rfl, hbw, hown⟩ := hrel
        have HWo := Lib.hid hbw
        have Own := Lib.hid hown.out
        have HWw := Lib.hid (zaa HW3.out (zaa hB5.out hbw))
        have HGo := Lib.hid (zaa hB5.out hbw)
        rcases Nat.lt_or_ge k m with hkm | hkm
        · have Hkm := Lib.hid hkm
          have q0 : wo.cell? ⟨PB, k, none⟩ = some (pivB s t k) := ((hR5.out.next hbw).cell k).trans (by simp [hkm])
          unfold pivB at q0
          rw [Htake.out] at q0
          have hk0 : (0 : Int) ≤ (k : Int) := by omega
          have hk1 : (k : Int) < (m : Int) := by omega
          clear hbw hown
          by_cases hin : k ∈ s.piv
          · rw [decide_eq_true hin] at q0
            have Hin := Lib.hid hin
            clear hin
            go_wp2_with fail
            clear q0
            go_roundw
            case rel => exact ⟨k + 1, S, Hkm.out, by go_num, HWo.out, by rw [Hid, kerQ_in Hin.out]; exact Own.out⟩
            case measure => have := Hkm.out; simp [intOf]; omega
          · rw [decide_eq_false hin] at q0
            have Hin := Lib.hid hin
            clear hin
            go_wp2_with (at_make; refine zdl elR rfl _ _ rfl IsR m rfl rfl rfl (by omega) (base := wo.heap.size) (S := fun _ => False) (Nat.le_refl _) (fun b h => h.elim) ?_; intro v6 w6 hown6 hb6 hz6)
            have O6 := Lib.hid hown6
            have HB6 := Lib.hid hb6
            clear hown6 hb6 hz6 q0 hkm
            go_loopw [51, 12] (fun jj ov wr => ∃ (j : Nat) (S2 : Nat → Prop), j ≤ m ∧ jj = .int .i64 (j : Int) ∧ Below wo.heap.size wo wr ∧ Hid (OwnS 3 50 IsR wr wo.heap.size S2 ov (rawV (List.replicate j 0))) ∧ Hid (∀ b, S2 b → wo.heap.size ≤ b)) (fun jj _ _ => m - (intOf jj).toNat)
            case atStart => exact ⟨0, fun _ => False, Nat.zero_le _, rfl, HB6.out, O6.out, fun b hb => hb.elim⟩
            case round =>
              obtain ⟨j, S2, hj, rfl, hbw, hown, hS2⟩ := hrel
              have HWr := Lib.hid hbw
              rcases Nat.lt_or_ge j m with hlt | hge
              · clear hbw
                go_wp2_with fail
                refine (zero_q _).mono ?_
                rintro e w7 ⟨⟨v7, rfl, hv7⟩, hb7⟩
                obtain ⟨s7, P7, k7, O7, l7, rfl, _, _, _⟩ := zam hv7
                obtain ⟨z1, hz1⟩ : ∃ z, z = (lim (0 : Rat).num.natAbs).length := ⟨_, rfl⟩
                obtain ⟨z2, hz2⟩ : ∃ z, z = (lim (0 : Rat).den).length := ⟨_, rfl⟩
                rw [← hz1, ← hz2] at hv7 ⊢
                have Own7 := Lib.hid (OwnS.step IsR.stb (T := fun b => S2 b ∨ (wr.heap.size ≤ b ∧ b < w7.heap.size)) hown.out hb7 (fun b h => .inl h) (fun b h => h))
                have El7 : Hid (IsR w7 (fun b => S2 b ∨ (wr.heap.size ≤ b ∧ b < w7.heap.size)) (.agg #[.bool s7, .slice P7 z1 k7, .slice O7 z2 l7]) (raw 0)) := IsQ.stb.to hv7 (zay fun b h => .inr h)
                have HW7 := Lib.hid (zaa HWr.out hb7)
                have hbase : wo.heap.size ≤ w7.heap.size := HW7.out.size
                clear hv7 hb7 hz1 hz2
                go_wp2_with (at_builtin; refine zcp elR rfl _ _ rfl IsR.stb rfl rfl rfl Own7.out El7.out rfl (by intro u hu; simp [Value.cells] at hu; rcases hu with rfl | rfl | rfl <;> rfl) (by rw [zbn, List.length_replicate]; omega) hbase ?_; intro v8 w8 hown8 hb8 hz8)
                go_roundw
                case rel =>
                  refine ⟨j + 1, fun b => S2 b ∨ (wr.heap.size ≤ b ∧ b < w7.heap.size), hlt, by go_num, HW7.out.trans hb8, ?_, fun b hb => by rcases hb with hb | hb; exact hS2.out b hb; exact Nat.le_trans HWr.out.size hb.1⟩
                  rw [List.replicate_succ', rawV_app]
                  exact hown8
                case measure => simp [intOf]; omega
              · obtain rfl : j = m := by omega
                have hjj : ¬ j < j := by omega
                have OX := Lib.hid hown.out
                have hlr : (rawV (List.replicate j (0 : Rat))).length = j := by rw [zbn, List.length_replicate]
                obtain ⟨g, c15, cur15, es15, h15, hg15, hcur15, _, _, _⟩ := OX.out.shape (fun e => by rw [e] at hlr; simp at hlr; omega)
                rw [hlr] at h15
                subst h15
                have hgw : g < wr.heap.size := (Array.getElem?_eq_some_iff.1 hcur15).1
                have Hg15 := Lib.hid hg15
                have HF6 : Hid (∃ cu, wr.heap[g]? = some (.cells cu 50 (0, 0))) := ⟨_, hcur15⟩
                clear hbw hown hcur15 hg15
                go_wp2_with fail
                refine (one_n _).mono ?_
                rintro e w7 ⟨⟨v7, rfl, hv7⟩, hb7⟩
                have VO := Lib.hid (zal (isN_old hv7))
                have HW7 := Lib.hid hb7
                clear hv7 hb7
                go_wp2_with fail
                refine (whole_f VO.out (by rw [zde]; decide)).mono ?_
                rintro e w8 ⟨⟨v8, rfl, hv8⟩, hb8⟩
                obtain ⟨s8, P8, k8, O8, l8, rfl, _, _, _⟩ := zam hv8
                obtain ⟨z1, hz1⟩ : ∃ z, z = (lim (((1 : Nat) : Int) : Rat).num.natAbs).length := ⟨_, rfl⟩
                obtain ⟨z2, hz2⟩ : ∃ z, z = (lim (((1 : Nat) : Int) : Rat).den).length := ⟨_, rfl⟩
                rw [← hz1, ← hz2] at hv8 ⊢
                have HW8 := Lib.hid (zaa HW7.out hb8)
                have hkj := Hkm.out
                have hT := OwnS.step IsR.stb (T := fun b => S2 b ∨ (wr.heap.size ≤ b ∧ b < w8.heap.size)) OX.out HW8.out (fun b h => .inl h) (fun b h => h)
                have hE : IsR w8 (fun b => S2 b ∨ (wr.heap.size ≤ b ∧ b < w8.heap.size)) (.agg #[.bool s8, .slice P8 z1 k8, .slice O8 z2 l8]) (raw (((1 : Nat) : Int) : Rat)) := IsQ.stb.to hv8 (zay fun b h => .inr ⟨Nat.le_trans HW7.out.size h.1, h.2⟩)
                obtain ⟨yy, hyy⟩ : ∃ yy, (rawV (List.replicate j (0 : Rat)))[k]? = some yy := ⟨_, List.getElem?_eq_getElem (by rw [hlr]; exact hkj)⟩
                obtain ⟨gb, gO, ev2, hA2, _, hR2, _, hcell2⟩ := IsS.get (hT.isS IsR.stb (T := fun _ => True) (fun b h => trivial) (fun b _ h => trivial)) (by omega) hyy
                cases hA2
                obtain ⟨a1, a2, a3, a4, rfl, _, _⟩ := hR2
                have d0 := hcell2 0 _ rfl
                have d1 := hcell2 1 _ rfl
                have d2 := hcell2 2 _ rfl
                rw [Nat.zero_add] at d0 d1 d2
                rw [Nat.add_zero] at d0
                have hf : ∀ o, w8.frozen? ⟨g, o, none⟩ = false := fun o => by
                  obtain ⟨cu, hcu⟩ := HF6.out
                  simp [World.frozen?, (HW8.out.block g hgw).trans hcu]
                have f0 := hf (k * 3)
                have f1 := hf (k * 3 + 1)
                have f2 := hf (k * 3 + 2)
                have OS : Hid (OwnS 3 50 IsR (putE w8 g k (.bool s8) (.slice P8 z1 k8) (.slice O8 z2 l8)) wo.heap.size (fun b => S2 b ∨ (wr.heap.size ≤ b ∧ b < w8.heap.size)) (.slice (some ⟨g, 0, none⟩) j c15) (rawV (zdu s j k 0))) := by
                  have h := OwnS.set3 IsR.stb (g := g) (cap := c15) (l := rawV (List.replicate j (0 : Rat))) (by rw [hlr]; exact hT) (j := k) (by rw [hlr]; exact hkj) hE
                  rw [List.length_set, hlr] at h
                  have e : rawV (zdu s j k 0) = (rawV (List.replicate j (0 : Rat))).set k (raw (((1 : Nat) : Int) : Rat)) := by
                    rw [zdu, rawV, List.map_set]
                    rfl
                  rw [Hid, e]
                  exact h
                obtain ⟨w9, hw9⟩ : ∃ x, x = ((w8.setCell ⟨g, k * 3, none⟩ (.bool s8)).setCell ⟨g, k * 3 + 1, none⟩ (.slice P8 z1 k8)).setCell ⟨g, k * 3 + 2, none⟩ (.slice O8 z2 l8) := ⟨_, rfl⟩
                have HB9 : Hid (Below wo.heap.size wo w9) := by
                  have h1 := zaa HWr.out HW8.out
                  rw [Hid, hw9]
                  exact h1.grown (zes (zak _ _)) h1.size (fun x e => by cases e; exact Hg15.out)
                have HG9 := Lib.hid (zaa HGo.out HB9.out)
                have g1 := (HG.out.row.next HG9.out).cell 1
                simp at g1
                rw [← Hnp.out] at g1
                have OS9 : Hid (OwnS 3 50 IsR w9 wo.heap.size (fun b => S2 b ∨ (wr.heap.size ≤ b ∧ b < w8.heap.size)) (.slice (some ⟨g, 0, none⟩) j c15) (rawV (zdu s j k 0))) := by rw [Hid, hw9]; exact OS.out
                have cr := zbr
                clear hT hE hyy hcell2 hf hv8 hb8 hz1 hz2 OS
                rw [hw9] at g1
                go_wp2_with fail
                rw [← hw9]
                clear g1 d0 d1 d2 f0 f1 f2 hw9
                go_loopw [68, 13, 14] (fun ii _ _ wr => ∃ (u : Nat) (S3 : Nat → Prop), u ≤ t ∧ ii = .int .i64 (u : Int) ∧ Below wo.heap.size wo wr ∧ Hid (OwnS 3 50 IsR wr wo.heap.size S3 (.slice (some ⟨g, 0, none⟩) j c15) (rawV (zdu s j k u))) ∧ Hid (∀ b, S3 b → wo.heap.size ≤ b)) (fun ii _ _ _ => t - (intOf ii).toNat)
                case atStart => exact ⟨0, _, Nat.zero_le _, rfl, HB9.out, OS9.out, fun b hb => by rcases hb with hb | hb; exact hS2.out b hb; exact Nat.le_trans HWr.out.size hb.1⟩
                case round =>
                  obtain ⟨u, S3, hu, rfl, hbu, hownt, hS3⟩ := hrel
                  have HBu := Lib.hid hbu
                  have HGu := Lib.hid (zaa HGo.out hbu)
                  have hG := HG.out
                  have hsl : (rawV (zdu s j k u)).length = j := by rw [zbn, kerTo_len]
                  rcases Nat.lt_or_ge u t with hlt | hge
                  · obtain ⟨cc, hcc⟩ : ∃ cc, s.piv[u]? = some cc := ⟨_, List.getElem?_eq_getElem (by rw [← Hnp.out]; exact hlt)⟩
                    have hcm := Hcm.out u cc hcc
                    have hpv := (IsS.stb IsVal.stb).to hG.piv (zba HGu.out)
                    rw [← Hnp.out] at hpv
                    obtain ⟨bp, op, ev, rfl, _, hRe, _, hcell⟩ := IsS.get hpv (by omega) (j := u) (x := .int .i64 (cc : Int)) (by rw [List.getElem?_map, hcc]; rfl)
                    have hRe : ev = .int .i64 (cc : Int) := hRe
                    subst hRe
                    have p0 := hcell 0 _ rfl
                    rw [Nat.mul_one, Nat.add_zero] at p0
                    obtain ⟨b6, c6, cur6, es6, h6, hb6, hcur6, _, _, _, _, h6a, _, _⟩ := hownt.out.shape (fun e => by rw [e] at hsl; simp at hsl; omega)
                    rw [hsl] at h6
                    simp only [Value.slice.injEq, Option.some.injEq, Addr.mk.injEq, and_true, true_and] at h6
                    obtain ⟨rfl, rfl⟩ := h6
                    have hbs := Hbnd.out j (Nat.le_refl j)
                    rw [← Hsr.out] at hbs
                    have Hcc := Lib.hid hcc
                    have Hg6 : Hid (g < wr.heap.size ∧ wo.heap.size ≤ g) := ⟨(Array.getElem?_eq_some_iff.1 hcur6).1, hb6⟩
                    have HF6 : Hid (∃ cu, wr.heap[g]? = some (.cells cu 50 (0, 0))) := ⟨_, hcur6⟩
                    have hc0 : (0 : Int) ≤ (cc : Int) := by omega
                    have hc1 : (cc : Int) < (j : Int) := by omega
                    have hu0 : (0 : Int) ≤ (u : Int) := by omega
                    have hu1 : (u : Int) < (t : Int) := by omega
                    have hxk : u < n := by omega
                    have hlp2 : s.piv.length ≤ 100 := by rw [← Hnp.out]; omega
                    have hat := at_s (hG.mat.next HGu.out (fun b h => h) (fun b h => .inl h)) (hG.row.next HGu.out) (IsK.stb.to hG.num fun b hb => ⟨hb, fun o => HGu.out.cell (p := ⟨b, o, none⟩) (hG.mat.sS b hb)⟩) (Bru.next HB.out (zaa HW3.out HGu.out)) (by omega) (by omega) hlp2 hxk hkj (bnd_len hbs hxk hkj) hbs.2.1 (Nat.pos_iff_ne_zero.1 hbs.2.2)
                    have hsz := Hat.out u k (by rw [← Hnp.out]; exact hlt) hkj
                    rw [← Hnp.out] at hat hsz
                    obtain ⟨q0, hq0⟩ : ∃ z, z = atQ s.A t s.d u k := ⟨_, rfl⟩
                    rw [← hq0] at hat hsz
                    have Hq0 := Lib.hid hq0
                    have Hsz := Lib.hid hsz
                    have Hatt := Lib.hid hat
                    have Hlt := Lib.hid hlt
                    have Hcm1 := Lib.hid hcm
                    clear hcc hpv hcell hcur6 hb6 hbs hat hsz hq0 h6a hbu hG hlt
                    go_wp2_with fail
                    refine Hatt.out.mono ?_
                    rintro e w7 ⟨⟨v7, rfl, hv7⟩, hb7⟩
                    have Q7 := Lib.hid (IsQ.stb.old hv7)
                    have HW7 := Lib.hid hb7
                    obtain ⟨s7, P7, k7, O7, l7, rfl, _, _, _⟩ := zam hv7
                    clear hv7 hb7 p0
                    go_wp2_with fail
                    refine (negative_q Q7.out (Hsz.out.le (by omega)) (p := -q0) rfl).mono ?_
                    rintro e w8 ⟨⟨v8, rfl, hv8⟩, hb8⟩
                    obtain ⟨qq, hqq⟩ : ∃ z, z = -q0 := ⟨_, rfl⟩
                    rw [← hqq] at hv8
                    obtain ⟨s8, P8, k8, O8, l8, rfl, _, _, _⟩ := zam hv8
                    obtain ⟨z1, hz1⟩ : ∃ z, z = (lim qq.num.natAbs).length := ⟨_, rfl⟩
                    obtain ⟨z2, hz2⟩ : ∃ z, z = (lim qq.den).length := ⟨_, rfl⟩
                    rw [← hz1, ← hz2] at hv8 ⊢
                    have HW8 := Lib.hid (zaa HW7.out hb8)
                    have hT := OwnS.step IsR.stb (T := fun b => S3 b ∨ (wr.heap.size ≤ b ∧ b < w8.heap.size)) hownt.out HW8.out (fun b h => .inl h) (fun b h => h)
                    have hE : IsR w8 (fun b => S3 b ∨ (wr.heap.size ≤ b ∧ b < w8.heap.size)) (.agg #[.bool s8, .slice P8 z1 k8, .slice O8 z2 l8]) (raw qq) := IsQ.stb.to hv8 (zay fun b h => .inr ⟨Nat.le_trans HW7.out.size h.1, h.2⟩)
                    obtain ⟨yy, hyy⟩ : ∃ yy, (rawV (zdu s j k u))[cc]? = some yy := ⟨_, List.getElem?_eq_getElem (by rw [hsl]; exact hcm)⟩
                    obtain ⟨gb, gO, ev2, hA2, _, hR2, _, hcell2⟩ := IsS.get (hT.isS IsR.stb (T := fun _ => True) (fun b h => trivial) (fun b _ h => trivial)) (by omega) hyy
                    cases hA2
                    obtain ⟨a1, a2, a3, a4, rfl, _, _⟩ := hR2
                    have d0 := hcell2 0 _ rfl
                    have d1 := hcell2 1 _ rfl
                    have d2 := hcell2 2 _ rfl
                    rw [Nat.zero_add] at d0 d1 d2
                    rw [Nat.add_zero] at d0
                    have hf : ∀ o, w8.frozen? ⟨g, o, none⟩ = false := fun o => by
                      obtain ⟨cu, hcu⟩ := HF6.out
                      simp [World.frozen?, (HW8.out.block g Hg6.out.1).trans hcu]
                    have f0 := hf (cc * 3)
                    have f1 := hf (cc * 3 + 1)
                    have f2 := hf (cc * 3 + 2)
                    have OS : Hid (OwnS 3 50 IsR (putE w8 g cc (.bool s8) (.slice P8 z1 k8) (.slice O8 z2 l8)) wo.heap.size (fun b => S3 b ∨ (wr.heap.size ≤ b ∧ b < w8.heap.size)) (.slice (some ⟨g, 0, none⟩) j c15) (rawV (zdu s j k (u + 1)))) := by
                      have h := OwnS.set3 IsR.stb (g := g) (cap := c15) (l := rawV (zdu s j k u)) (by rw [hsl]; exact hT) (j := cc) (by rw [hsl]; exact hcm) hE
                      rw [List.length_set, hsl] at h
                      have e : rawV (zdu s j k (u + 1)) = (rawV (zdu s j k u)).set cc (raw qq) := by
                        rw [zdu, rawV, List.map_set, List.getD_eq_getElem?_getD, Hcc.out, Option.getD_some, ← Hnp.out, ← Hq0.out, ← hqq]
                        rfl
                      rw [Hid, e]
                      exact h
                    have HB7 : Hid (Below wo.heap.size wo (putE w8 g cc (.bool s8) (.slice P8 z1 k8) (.slice O8 z2 l8))) := by
                      have h1 := zaa HBu.out HW8.out
                      exact h1.grown (zes (zak _ _)) h1.size (fun x e => by cases e; exact Hg6.out.2)
                    have cr := zbr
                    have hlt := Hlt.out
                    clear hT hE hyy hcell2 hf hv8 hb8 hqq hz1 hz2
                    go_wp2_with fail
                    clear d0 d1 d2 f0 f1 f2
                    go_roundw
                    case rel => exact ⟨u + 1, _, hlt, by go_num, HB7.out, OS.out, fun b hb => by rcases hb with hb | hb; exact hS3.out b hb; exact Nat.le_trans HBu.out.size hb.1⟩
                    case measure => simp [intOf]; omega
                  · obtain rfl : u = t := by omega
                    have huu : ¬ u < u := by omega
                    have hown1 := OwnS.step IsV.stb (T := fun b => S b ∨ (wo.heap.size ≤ b ∧ b < wr.heap.size)) Own.out HBu.out (fun b h => .inl h) (fun b h => h)
                    have hel1 := OwnS.isS IsR.stb (T := fun b => S b ∨ (wo.heap.size ≤ b ∧ b < wr.heap.size)) hownt.out (fun b hb => .inr ⟨hS3.out b hb, by obtain ⟨_, _, _, _, h4⟩ := hownt.out; exact (h4 b hb).1⟩) (fun b h1 h2 => .inr ⟨h1, h2⟩)
                    have hbase : w5.heap.size ≤ wr.heap.size := (zaa HWo.out HBu.out).size
                    have HB9' := Lib.hid (zaa HWo.out HBu.out)
                    have hkl := kerQ_len s j k
                    clear hbu hG
                    go_wp2_with (at_builtin; refine zcp elV rfl _ _ rfl IsV.stb rfl rfl rfl hown1 hel1 rfl (by intro u hu; simp [Value.cells] at hu; subst hu; rfl) (by rw [zbs]; omega) hbase ?_; intro v9 w9 hown9 hb9 hz9)
                    go_roundw
                    case rel =>
                      refine ⟨k + 1, fun b => S b ∨ (wo.heap.size ≤ b ∧ b < wr.heap.size), Hkm.out, by go_num, HB9'.out.trans hb9, ?_⟩
                      rw [Hid, kerQ_out Hin.out, ← Hnp.out, rawM_one]
                      exact hown9
                    case measure => have := Hkm.out; simp [intOf]; omega
        · obtain rfl : k = m := by omega
          have hkk : ¬ k < k := by omega
          have HI8 : Hid (IsM wo (Old wo) _ (rawM (kerQ s k k))) := Own.out.isS IsV.stb (fun b h => by obtain ⟨_, _, _, _, h4⟩ := Own.out; exact (h4 b h).1) (fun b _ h => h)
          clear hbw hown
          go_wp2_with fail
          refine (boundedRows_l HI8.out).mono ?_
          rw [bndM_ok Hfit.out]
          rintro e w9 ⟨rfl, hb9⟩
          have V9 := Lib.hid (IsM.stb.next HI8.out hb9)
          have HW9 := Lib.hid (zaa HWw.out hb9)
          clear hb9
          go_wp2_with fail
          go_ret2
          exact ⟨⟨_, rfl, V9.out⟩, HW9.out⟩
theorem ratof_i {w : World} (a b : Int) (ha : a.natAbs ≤ 1000000) (hb : 1 ≤ b) (hb1 : b ≤ 1000000) :
    Calls Tryd.prog 21 #[.int .i64 a, .int .i64 b] w fun e w' => (∃ v, e = .returned v ∧ IsQ w' (New w.heap.size w') v (zdj a b.toNat)) ∧ Below w.heap.size w w' := by
  have e : b = ((b.toNat : Nat) : Int) := by omega
  rw [e]
  exact (ratof_q (a := a) (b := b.toNat) (by omega) (by omega) (by omega)).mono fun e w' ⟨⟨v, he, hv⟩, h⟩ => ⟨⟨v, he, by rw [Int.toNat_natCast]; exact hv⟩, h⟩
def Drawn (K : Nat) (q : Rat) : Prop := ∃ (a : Int) (b : Nat), a.natAbs ≤ K ∧ 1 ≤ b ∧ b ≤ K ∧ q = zdj a b
theorem Drawn.sz {K : Nat} {q : Rat} (h : Drawn K q) (hK : K ≤ 1000000) : Sz q 1 := by
  obtain ⟨a, b, h1, h2, h3, rfl⟩ := h
  exact sz_of_mk (by omega) (lim_len_le.2 (by unfold pw; omega)) (lim_len_le.2 (by unfold pw; omega))
def Twelve (B : Nat) (q : Rat) : Prop := ∃ z : Int, q * 12 = (z : Rat) ∧ z.natAbs ≤ B
theorem Twelve.le {B C : Nat} {q : Rat} (h : Twelve B q) (hB : B ≤ C) : Twelve C q := by
  obtain ⟨z, h1, h2⟩ := h
  exact ⟨z, h1, Nat.le_trans h2 hB⟩
theorem Twelve.add {B C : Nat} {p q : Rat} (h : Twelve B p) (k : Twelve C q) : Twelve (B + C) (p + q) := by
  obtain ⟨z, h1, h2⟩ := h
  obtain ⟨y, k1, k2⟩ := k
  refine ⟨z + y, by rw [Rat.intCast_add, ← h1, ← k1]; grind, by omega⟩
theorem Twelve.mk {B : Nat} {q : Rat} (h : Twelve B q) : ∃ z : Int, q = mkRat z 12 ∧ z.natAbs ≤ B := by
  obtain ⟨z, h1, h2⟩ := h
  refine ⟨z, ?_, h2⟩
  rw [Rat.mkRat_eq_div, ← h1]
  have : ((12 : Nat) : Rat) = 12 := rfl
  rw [this]
  grind
theorem Twelve.sz {B : Nat} {q : Rat} (h : Twelve B q) (hB : B ≤ 1000000) : Sz q 1 := by
  obtain ⟨z, rfl, h2⟩ := h.mk
  exact sz_of_mk (by omega) (lim_len_le.2 (by unfold pw; omega)) (lim_len_le.2 (by unfold pw; omega))
theorem Drawn.twelve {q : Rat} (h : Drawn 4 q) : Twelve 48 q := by
  obtain ⟨a, b, h1, h2, h3, rfl⟩ := h
  unfold zdj
  have hb : b = 1 ∨ b = 2 ∨ b = 3 ∨ b = 4 := by omega
  rcases hb with rfl | rfl | rfl | rfl
  · exact ⟨a * 12, by rw [Rat.mkRat_eq_div, Rat.intCast_mul]; show (a : Rat) / 1 * 12 = _ * 12; grind, by omega⟩
  · exact ⟨a * 6, by rw [Rat.mkRat_eq_div, Rat.intCast_mul]; show (a : Rat) / 2 * 12 = _ * 6; grind, by omega⟩
  · exact ⟨a * 4, by rw [Rat.mkRat_eq_div, Rat.intCast_mul]; show (a : Rat) / 3 * 12 = _ * 4; grind, by omega⟩
  · exact ⟨a * 3, by rw [Rat.mkRat_eq_div, Rat.intCast_mul]; show (a : Rat) / 4 * 12 = _ * 3; grind, by omega⟩
def DrewR {α : Type} (R : World → (Nat → Prop) → Value → α → Prop) (P : α → Prop) (w : World) (g : Nat) (l : List Int) (e : Ending) (w' : World) : Prop := (∃ v x, e = .returned v ∧ R w' (New w.heap.size w') v x ∧ P x) ∧ IsD w' g l ∧ w.grownBy w' (some g)
theorem OwnS.drawn {α : Type} {n : Nat} {t : TypeId} {R : World → (Nat → Prop) → Value → α → Prop} (hR : Stb R) {w w' : World} {base : Nat} {S : Nat → Prop} {v : Value} {l : List α} {g : Nat} (h : OwnS n t R w base S v l) (hS : ∀ b, S b → base ≤ b) (hb : w.grownBy w' (some g)) (hg : g < base) :
    OwnS n t R w' base (fun b => S b ∨ (w.heap.size ≤ b ∧ b < w'.heap.size)) v l := by
  have h1 := h.grown hR hb fun b e => ⟨fun e' => by have := (OwnS.own_lt h b e').1; cases e; omega, fun hs => by have := hS b hs; cases e; omega⟩
  refine h1.wider hR (fun b h => .inl h) fun b hb' => ?_
  rcases hb' with hs | ⟨h2, h3⟩
  · obtain ⟨_, _, _, _, h4⟩ := h1
    exact h4 b hs
  · exact ⟨h3, fun e => by have := (OwnS.own_lt h b e.symm).2; omega⟩
set_option maxRecDepth 100000 in
set_option maxHeartbeats 2000000 in
theorem rational_q {w : World} {g : Nat} {l : List Int} (hD : IsD w g l) {K : Int} (hK : K = 4 ∨ K = 5) : Calls Tryd.prog 65 #[.pointer (some ⟨g, 0, none⟩), .int .i64 K] w (DrewR IsQ (Drawn K.toNat) w g l) := by
  have hgw := hD.lt
  obtain ⟨w0, hw0, hb0, rZ, Hz⟩ := zcf w #[.bool false, .slice none 0 0, .slice none 0 0] 50
  have D0 := Lib.hid (hD.next hb0 hgw)
  have B0 := Lib.hid hb0
  have RZ := Lib.hid rZ
  clear hD hb0 rZ
  rcases hK with rfl | rfl
  · go_enter Tryd.func65, Tryd.ntmps65
    go_wp2_with fail
    clear hw0
    refine (next_i D0.out 9 (by omega) (by omega)).mono ?_
    rintro e w1 ⟨⟨x, hx0, hx1, rfl⟩, hD1, hO1⟩
    have D1 := Lib.hid hD1
    have G1 := Lib.hid hO1.grown
    have RZ1 := Lib.hid (RZ.out.grownN hO1.grown fun b e => by cases e; omega)
    clear hD1 hO1
    go_wp2_with fail
    refine (next_i D1.out 4 (by omega) (by omega)).mono ?_
    rintro e w2 ⟨⟨y, hy0, hy1, rfl⟩, hD2, hO2⟩
    have D2 := Lib.hid hD2
    have G2 := Lib.hid (zap G1.out hO2.grown)
    have RZ2 := Lib.hid (RZ1.out.grownN hO2.grown fun b e => by cases e; omega)
    clear hD2 hO2
    go_wp2_with fail
    refine (ratof_i (x - 4) (1 + y) (by omega) (by omega) (by omega)).mono ?_
    rintro e w3 ⟨⟨v3, rfl, hv3⟩, hb3⟩
    have V3 := Lib.hid hv3
    have Hsq : Hid (Drawn 4 (zdj (x - 4) (1 + y).toNat)) := ⟨_, _, by omega, by omega, by omega, rfl⟩
    have D3 := Lib.hid (D2.out.next hb3 D2.out.lt)
    have RZ3 := Lib.hid (RZ2.out.next hb3)
    have G3 := Lib.hid (zap (zap (zbe (row := some g) B0.out) G2.out) (zbe hb3))
    obtain ⟨s3, P3, k3, O3, l3, rfl, _, _, _⟩ := zam hv3
    obtain ⟨d0, d1, d2⟩ := zad RZ3.out
    obtain ⟨f0, f1, f2⟩ := zaq RZ3.out
    have hz2 : w.heap.size < w2.heap.size := RZ2.out.lt
    clear hb3 hv3
    go_wp2_with fail
    refine zbc Tryd.results65 rfl rfl (Row.put3 RZ3.out _ _ _) ⟨⟨_, _, rfl, IsQ.stb.to V3.out (zcu fun b hb => ⟨by have := hb.1; omega, ⟨by have := hb.1; omega, by rw [zcz]; exact hb.2⟩⟩), Hsq.out⟩, ((D3.out.far (p := ⟨w.heap.size, 0, none⟩) hgw _).far (p := ⟨w.heap.size, 1, none⟩) hgw _).far (p := ⟨w.heap.size, 2, none⟩) hgw _, zdc (zdc (zdc G3.out (Nat.le_refl _) _ _) (Nat.le_refl _) _ _) (Nat.le_refl _) _ _⟩
  · go_enter Tryd.func65, Tryd.ntmps65
    go_wp2_with fail
    clear hw0
    refine (next_i D0.out 11 (by omega) (by omega)).mono ?_
    rintro e w1 ⟨⟨x, hx0, hx1, rfl⟩, hD1, hO1⟩
    have D1 := Lib.hid hD1
    have G1 := Lib.hid hO1.grown
    have RZ1 := Lib.hid (RZ.out.grownN hO1.grown fun b e => by cases e; omega)
    clear hD1 hO1
    go_wp2_with fail
    refine (next_i D1.out 5 (by omega) (by omega)).mono ?_
    rintro e w2 ⟨⟨y, hy0, hy1, rfl⟩, hD2, hO2⟩
    have D2 := Lib.hid hD2
    have G2 := Lib.hid (zap G1.out hO2.grown)
    have RZ2 := Lib.hid (RZ1.out.grownN hO2.grown fun b e => by cases e; omega)
    clear hD2 hO2
    go_wp2_with fail
    refine (ratof_i (x - 5) (1 + y) (by omega) (by omega) (by omega)).mono ?_
    rintro e w3 ⟨⟨v3, rfl, hv3⟩, hb3⟩
    have V3 := Lib.hid hv3
    have Hsq : Hid (Drawn 5 (zdj (x - 5) (1 + y).toNat)) := ⟨_, _, by omega, by omega, by omega, rfl⟩
    have D3 := Lib.hid (D2.out.next hb3 D2.out.lt)
    have RZ3 := Lib.hid (RZ2.out.next hb3)
    have G3 := Lib.hid (zap (zap (zbe (row := some g) B0.out) G2.out) (zbe hb3))
    obtain ⟨s3, P3, k3, O3, l3, rfl, _, _, _⟩ := zam hv3
    obtain ⟨d0, d1, d2⟩ := zad RZ3.out
    obtain ⟨f0, f1, f2⟩ := zaq RZ3.out
    have hz2 : w.heap.size < w2.heap.size := RZ2.out.lt
    clear hb3 hv3
    go_wp2_with fail
    refine zbc Tryd.results65 rfl rfl (Row.put3 RZ3.out _ _ _) ⟨⟨_, _, rfl, IsQ.stb.to V3.out (zcu fun b hb => ⟨by have := hb.1; omega, ⟨by have := hb.1; omega, by rw [zcz]; exact hb.2⟩⟩), Hsq.out⟩, ((D3.out.far (p := ⟨w.heap.size, 0, none⟩) hgw _).far (p := ⟨w.heap.size, 1, none⟩) hgw _).far (p := ⟨w.heap.size, 2, none⟩) hgw _, zdc (zdc (zdc G3.out (Nat.le_refl _) _ _) (Nat.le_refl _) _ _) (Nat.le_refl _) _ _⟩
set_option maxRecDepth 100000 in
set_option maxHeartbeats 2000000 in
theorem vectorOf_l {w : World} {g : Nat} {l : List Int} (hD : IsD w g l) {n : Nat} (hn : n ≤ 40) : Calls Tryd.prog 34 #[.pointer (some ⟨g, 0, none⟩), .int .i64 (n : Int)] w (DrewR IsV (fun a => ∃ q : List Rat, a = rawV q ∧ q.length = n ∧ ∀ x ∈ q, Drawn 4 x) w g l) := by
  have hgw := hD.lt
  have D0 := Lib.hid hD
  clear hD
  go_enter Tryd.func34, Tryd.ntmps34
  go_wp2_with fail
  go_loopw [6, 5] (fun i ov wr => ∃ (k : Nat) (S : Nat → Prop) (q : List Rat), k ≤ n ∧ i = .int .i64 (k : Int) ∧ w.grownBy wr (some g) ∧ IsD wr g l ∧ Hid (OwnS 3 50 IsR wr w.heap.size S ov (rawV q)) ∧ Hid (q.length = k ∧ (∀ x ∈ q, Drawn 4 x) ∧ ∀ b, S b → w.heap.size ≤ b)) (fun i _ _ => n - (intOf i).toNat)
  case atStart => exact ⟨0, fun _ => False, [], Nat.zero_le _, rfl, zak _ _, D0.out, OwnS.nil (fun b hb => hb.elim), rfl, (fun _ h => by cases h), fun b hb => hb.elim⟩
  case round =>
    obtain ⟨k, S, q, hk, rfl, hgr, hD, hown, hq⟩ := hrel
    have G := Lib.hid hgr
    have D := Lib.hid hD
    have Own := Lib.hid hown.out
    clear hgr hD hown
    rcases Nat.lt_or_ge k n with hlt | hge
    · have Hlt := Lib.hid hlt
      go_wp2_with fail
      refine (rational_q D.out (.inl rfl)).mono ?_
      rintro e w2 ⟨⟨v2, x, rfl, hv2, hsx⟩, hD2, hg2⟩
      have D2 := Lib.hid hD2
      have G2 := Lib.hid (zap G.out hg2)
      have hown2 := OwnS.drawn IsR.stb Own.out hq.out.2.2 hg2 hgw
      have hel2 := IsQ.stb.to hv2 (zay (T := fun b => S b ∨ (wr.heap.size ≤ b ∧ b < w2.heap.size)) fun b h => .inr h)
      obtain ⟨s2, P2, k2, O2, l2, rfl, _, _, _⟩ := zam hv2
      have hbase : w.heap.size ≤ w2.heap.size := G2.out.size
      have hzw : w.heap.size ≤ wr.heap.size := G.out.size
      have hql := hq.out.1
      have Hsx := Lib.hid hsx
      clear hD2 hg2 hv2 hsx hlt
      go_wp2_with (at_builtin; refine zcp elR rfl _ _ rfl IsR.stb rfl rfl rfl hown2 hel2 rfl (by intro u hu; simp [Value.cells] at hu; rcases hu with rfl | rfl | rfl <;> rfl) (by rw [zbi]; omega) hbase ?_; intro v6 w6 hown6 hb6 hz6)
      go_roundw
      case rel =>
        refine ⟨k + 1, fun b => S b ∨ (wr.heap.size ≤ b ∧ b < w2.heap.size), q ++ [x], Hlt.out, by go_num, zft G2.out hb6, D2.out.next hb6 hgw, by rw [Hid, zem]; exact hown6, by simp [hql], fun y hy => ?_, fun b hb => by rcases hb with hb | hb; exact hq.out.2.2 b hb; exact Nat.le_trans hzw hb.1⟩
        rcases List.mem_append.1 hy with h | h
        · exact hq.out.2.1 y h
        · rw [List.mem_singleton.1 h]; exact Hsx.out
      case measure => have := Hlt.out; simp [intOf]; omega
    · obtain rfl : k = n := by omega
      have hlt : ¬ k < k := by omega
      have hV : IsV wr (New w.heap.size wr) _ (rawV q) := OwnS.isS IsR.stb (T := New w.heap.size wr) Own.out (fun b hb => ⟨hq.out.2.2 b hb, by obtain ⟨_, _, _, _, h4⟩ := Own.out; exact (h4 b hb).1⟩) (fun b h1 h2 => ⟨h1, h2⟩)
      have HV := Lib.hid hV
      clear hV
      go_wp2_with fail
      go_ret
      exact ⟨⟨_, _, rfl, HV.out, q, rfl, hq.out.1, hq.out.2.1⟩, D.out, G.out⟩
end Go.Proofs.YtjkgdggkgljdoaaDoor
