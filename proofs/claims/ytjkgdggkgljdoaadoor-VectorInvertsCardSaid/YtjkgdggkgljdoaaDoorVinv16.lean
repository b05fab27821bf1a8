/-
  The contracts of package vector's (*grid).at and row.
-/
import Derived.Test.YtjkgdggkgljdoaaDoorVinv12
import Derived.Test.YtjkgdggkgljdoaaDoorVinv11
import Derived.Test.YtjkgdggkgljdoaaDoorVinv15
import Derived.Test.YtjkgdggkgljdoaaDoorVinv07
import Derived.Test.YtjkgdggkgljdoaaDoorVinv14
import Derived.Laws.OwnMore
namespace Go.Proofs.YtjkgdggkgljdoaaDoor
open Go.RowKit
set_option linter.unusedVariables false
def atQ (A : Nat → Nat → Int) (np d i j : Nat) : Rat := if i < np then mkRat (A i j) d else 0
set_option maxRecDepth 100000 in
set_option maxHeartbeats 4000000 in
theorem at_s {w : World} {S : Nat → Prop} {g r0 c0 d np : Nat} {rb cp : Nat → Nat} {n m : Nat} {A : Nat → Nat → Int} {D Pv : Option Addr} {cd cv : Nat} {i j : Nat} (hM : MatW w S r0 rb cp n m A) (hg : Row w g 110 [.slice (some ⟨r0, 0, none⟩) n c0, .slice Pv np cv, .slice D (lim d).length cd])
    (hD : NumS w S (.slice D (lim d).length cd) d) (hB : Bru w) (hn : n ≤ 100) (hm : m ≤ 100) (hnp : np ≤ 100) (hi : i < n) (hj : j < m) (hs : (lim (A i j).natAbs).length ≤ 1000000) (hdl : (lim d).length ≤ 1000000) (hd0 : d ≠ 0) :
    Calls Tryd.prog 74 #[.pointer (some ⟨g, 0, none⟩), .int .i64 (i : Int), .int .i64 (j : Int)] w (RetQ w (atQ A np d i j)) := by
  have HG := Lib.hid hg
  have HB := Lib.hid hB
  have Hs := Lib.hid hs
  have Hdl := Lib.hid hdl
  have Hd0 := Lib.hid hd0
  have HD := Lib.hid (IsK.stb.to hD (zay (T := Old w) hM.sS))
  have g0 := hg.cell 0
  have g1 := hg.cell 1
  have g2 := hg.cell 2
  simp at g0 g1 g2
  have hi0 : (0 : Int) ≤ (i : Int) := by omega
  have hi1 : (i : Int) < (n : Int) := by omega
  have hj0 : (0 : Int) ≤ (j : Int) := by omega
  have hj1 : (j : Int) < (m : Int) := by omega
  have ci := hM.hd i hi
  have cr := zbr
  have hcap := (hM.cap i hi)
  obtain ⟨P, k, Q, l, e0, e1, e2, eq⟩ := hM.el i j hi hj
  have QP := Lib.hid (IsQ.stb.to eq (zay (T := Old w) hM.sS))
  obtain ⟨V, hV⟩ : ∃ x, x = rb i := ⟨_, rfl⟩
  obtain ⟨C, hC⟩ : ∃ x, x = cp i := ⟨_, rfl⟩
  obtain ⟨x0, hx0⟩ : ∃ x, x = decide (A i j < 0) := ⟨_, rfl⟩
  obtain ⟨N, hN⟩ : ∃ x, x = (A i j).natAbs := ⟨_, rfl⟩
  obtain ⟨x1, hx1⟩ : ∃ x, x = (lim N).length := ⟨_, rfl⟩
  obtain ⟨x2, hx2⟩ : ∃ x, x = (lim 1).length := ⟨_, rfl⟩
  obtain ⟨ld, hld⟩ : ∃ x, x = (lim d).length := ⟨_, rfl⟩
  have HN : Hid (NumS w (Old w) (.slice P x1 k) N) := by
    have h := zdm QP.out
    rw [Rat.num_intCast, ← hN, ← hx1] at h
    exact h
  have Hq : Hid (atQ A np d i j = if i < np then mkRat (sg x0 N) d else 0) := by rw [Hid, atQ, hx0, hN, sg_of]
  rw [← hV] at ci e0 e1 e2
  rw [← hC] at ci hcap
  rw [← hx0] at e0
  rw [← hN, ← hx1] at e1
  rw [← hx2] at e2
  rw [← hN] at Hs
  rw [← hld] at g2 HD
  have hcap1 := hcap.1
  have hcap2 : C ≤ 9223372036854775807 := by have := hcap.2; unfold maxLen at this; omega
  obtain ⟨w0, hw0, hb0, rZ, Hz⟩ := zcf w #[.bool false, .slice none 0 0, .slice none 0 0] 50
  replace g0 := zac hb0 g0
  replace g1 := zac hb0 g1
  replace g2 := zac hb0 g2
  replace ci := zac hb0 ci
  replace e0 := zac hb0 e0
  replace e1 := zac hb0 e1
  replace e2 := zac hb0 e2
  obtain ⟨wx, hwx, hbx, rX, Hzx⟩ := zcf w0 #[.bool x0, .slice P x1 k, .slice Q x2 l] 50
  have BX := Lib.hid (zaa hb0 hbx)
  have RZ := Lib.hid (rZ.next hbx)
  have RX := Lib.hid rX
  have hgx := zac hbx g1
  have G2 := Lib.hid (zac hbx g2)
  obtain ⟨X, hX⟩ : ∃ X, X = w0.heap.size := ⟨_, rfl⟩
  have Hz1 : Hid (X = w.heap.size + 1) := by rw [hX]; exact Hz
  have Hz2 : Hid (wx.heap.size = w.heap.size + 2) := by rw [Hid, Hzx.out, Hz.out]
  rw [← hX] at RX
  clear hM hg eq hs hV hC hx0 hx1 hx2 hN hld hcap hD hdl hd0 hB QP hb0 rZ rX hbx Hz Hzx
  rcases Nat.lt_or_ge i np with hlt | hge
  · have e : decide (np ≤ i) = false := by simp; omega
    go_enter Tryd.func74, Tryd.ntmps74
    go_wp2_with fail
    clear hw0 hwx g0 g1 g2 ci e0 e1 e2 hgx
    rw [← hX]
    clear hX
    obtain ⟨z0, z1, z2⟩ := zad RZ.out
    obtain ⟨f0, f1, f2⟩ := zaq RZ.out
    obtain ⟨b0, b1, b2⟩ := zad RX.out
    have Hq1 : Hid (atQ A np d i j = mkRat (sg x0 N) d) := by rw [Hid, Hq.out, if_pos hlt]
    have Hne : Hid (X ≠ w.heap.size) := by rw [Hid, Hz1.out]; omega
    have Hgne : Hid (g ≠ w.heap.size) := by have := HG.out.lt; rw [Hid]; omega
    have CC := Lib.hid (And.intro b0 (And.intro b1 G2.out))
    have HS : Hid (∀ W : World, Below wx.heap.size wx W → W.cell? ⟨X, 0, none⟩ = some (.bool x0) ∧ W.cell? ⟨X, 1, none⟩ = some (.slice P x1 k) ∧ W.cell? ⟨g, 2, none⟩ = some (.slice D ld cd)) := fun W hW => ⟨zac hW CC.out.1, zac hW CC.out.2.1, zac hW CC.out.2.2⟩
    have D1 : Hid (∀ W : World, Below wx.heap.size wx W → Calls Tryd.prog 109 #[.bool x0, .slice P x1 k, .slice D ld cd] W (RetQ W (atQ A np d i j))) := fun W hW => ratio_q x0 (zal (IsK.stb.next HN.out (zaa BX.out hW))) (zal (IsK.stb.next HD.out (zaa BX.out hW))) (Bru.next HB.out (zaa BX.out hW)) Hs.out Hdl.out Hd0.out Hq1.out
    have HP : Hid (∀ W : World, Below wx.heap.size wx W → ∀ x y z, (put3 W w.heap.size x y z).cell? ⟨X, 0, none⟩ = some (.bool x0) ∧ (put3 W w.heap.size x y z).cell? ⟨X, 1, none⟩ = some (.slice P x1 k) ∧ (put3 W w.heap.size x y z).cell? ⟨g, 2, none⟩ = some (.slice D ld cd)) := fun W hW x y z => (fun h => ⟨zar h.1 Hne.out, zar h.2.1 Hne.out, zar h.2.2 Hgne.out⟩) (HS.out W hW)
    go_region_held3 (fun w' => w'.cell? ⟨X, 0, none⟩ = some (.bool x0) ∧ w'.cell? ⟨X, 1, none⟩ = some (.slice P x1 k) ∧ w'.cell? ⟨g, 2, none⟩ = some (.slice D ld cd))
      (first | exact HS.out _ (by (repeat (first | exact Below.refl _ _ | assumption | refine zae ?_ _ | refine zaf ?_ | refine zag ?_ ?_ _ _ _ | refine zai ?_ (by omega) | refine zaa ?_ (by assumption))); (first | done | fail)) | exact HP.out _ (by (repeat (first | exact Below.refl _ _ | assumption | refine zae ?_ _ | refine zaf ?_ | refine zag ?_ ?_ _ _ _ | refine zai ?_ (by omega) | refine zaa ?_ (by assumption))); (first | done | fail)) _ _ _)
      (first
        | (go_at_call 109; (with_reducible refine Calls.mono (D1.out _ (by (repeat (first | exact Below.refl _ _ | assumption | refine zae ?_ _ | refine zaf ?_ | refine zag ?_ ?_ _ _ _ | refine zai ?_ (by omega) | refine zaa ?_ (by assumption))); (first | done | fail))) ?_); rintro e w2 ⟨⟨v2, rfl, hv2⟩, hb2⟩; have B2 : Hid (Below wx.heap.size wx w2) := (by (repeat (first | exact Below.refl _ _ | assumption | refine zae ?_ _ | refine zaf ?_ | refine zag ?_ ?_ _ _ _ | refine zai ?_ (by omega) | refine zaa ?_ (by assumption))); (first | done | fail)); obtain ⟨s2, P2, k2, O2, l2, rfl, _, _, _⟩ := zam hv2; obtain ⟨u0, u1, u2⟩ := zad (RZ.out.next B2.out); obtain ⟨v0, v1, v2⟩ := zaq (RZ.out.next B2.out)))
    have HV2 := Lib.hid hv2
    clear HS D1 HP z0 z1 z2 f0 f1 f2 b0 b1 b2 u0 u1 u2 v0 v1 v2 hv2 hb2
    go_wp2_with fail
    refine zbc Tryd.results74 rfl rfl (Row.put3 (RZ.out.next B2.out) _ _ _) (zfm HV2.out (zaa BX.out B2.out) (Nat.le_refl _) ?_)
    have h1 := Hz2.out
    show w.heap.size < _
    first | (simp; omega) | omega
  · have e : decide (np ≤ i) = true := by simp; omega
    have Hq1 : Hid (atQ A np d i j = 0) := by rw [Hid, Hq.out, if_neg (by omega)]
    go_enter Tryd.func74, Tryd.ntmps74
    go_wp2_with fail
    clear hw0 hwx g0 g1 g2 ci e0 e1 e2 hgx
    refine (zero_q wx).mono ?_
    rintro e w2 ⟨⟨v2, rfl, hv2⟩, hb2⟩
    obtain ⟨s2, P2, k2, O2, l2, rfl, _, _, _⟩ := zam hv2
    have B2 := Lib.hid hb2
    have HV2 := Lib.hid hv2
    obtain ⟨z0, z1, z2⟩ := zad (RZ.out.next hb2)
    obtain ⟨f0, f1, f2⟩ := zaq (RZ.out.next hb2)
    clear hv2 hb2
    go_wp2_with fail
    rw [Hq1.out]
    refine zbc Tryd.results74 rfl rfl (Row.put3 (RZ.out.next B2.out) _ _ _) (zfm HV2.out (zaa BX.out B2.out) (Nat.le_refl _) ?_)
    have h1 := Hz2.out
    omega
def rowQ (A : Nat → Nat → Int) (np d i k0 cnt : Nat) : List Rat := (List.range cnt).map fun t => atQ A np d i (k0 + t)
theorem rowQ_len (A : Nat → Nat → Int) (np d i k0 cnt : Nat) : (rowQ A np d i k0 cnt).length = cnt := by unfold rowQ; simp
theorem rowQ_snoc (A : Nat → Nat → Int) (np d i k0 cnt : Nat) : rowQ A np d i k0 (cnt + 1) = rowQ A np d i k0 cnt ++ [atQ A np d i (k0 + cnt)] := by unfold rowQ; rw [List.range_succ, List.map_append]; rfl
set_option maxRecDepth 100000 in
set_option maxHeartbeats 4000000 in
theorem row_s {w : World} {S : Nat → Prop} {g r0 c0 d np : Nat} {rb cp : Nat → Nat} {n m : Nat} {A : Nat → Nat → Int} {D Pv : Option Addr} {cd cv : Nat} {i k0 : Nat} (hM : MatW w S r0 rb cp n m A) (hg : Row w g 110 [.slice (some ⟨r0, 0, none⟩) n c0, .slice Pv np cv, .slice D (lim d).length cd])
    (hD : NumS w S (.slice D (lim d).length cd) d) (hB : Bru w) (hn : n ≤ 100) (hm : m ≤ 100) (hnp : np ≤ 100) (hi : i < n) (hk : k0 ≤ m) (hs : ∀ j, j < m → (lim (A i j).natAbs).length ≤ 1000000) (hdl : (lim d).length ≤ 1000000) (hd0 : d ≠ 0) :
    Calls Tryd.prog 68 #[.pointer (some ⟨g, 0, none⟩), .int .i64 (i : Int), .int .i64 (k0 : Int)] w fun e w' => (∃ v, e = .returned v ∧ IsV w' (New w.heap.size w') v (rawV (rowQ A np d i k0 (m - k0)))) ∧ Below w.heap.size w w' := by
  have HM := Lib.hid hM
  have HG := Lib.hid hg
  have HB := Lib.hid hB
  have Hs := Lib.hid hs
  have HD := Lib.hid hD
  have Hdl := Lib.hid hdl
  have Hd0 := Lib.hid hd0
  have g0 := hg.cell 0
  simp at g0
  have hi0 : (0 : Int) ≤ (i : Int) := by omega
  have hi1 : (i : Int) < (n : Int) := by omega
  have ci := hM.hd i hi
  have hcap := (hM.cap i hi)
  obtain ⟨V, hV⟩ : ∃ x, x = rb i := ⟨_, rfl⟩
  obtain ⟨C, hC⟩ : ∃ x, x = cp i := ⟨_, rfl⟩
  rw [← hV] at ci
  rw [← hC] at ci hcap
  have hcap1 := hcap.1
  have hcap2 : C ≤ 9223372036854775807 := by have := hcap.2; unfold maxLen at this; omega
  have CC := Lib.hid (And.intro g0 ci)
  have cr := zbr
  obtain ⟨mk, hmk⟩ : ∃ x, x = m - k0 := ⟨_, rfl⟩
  have Hmk := Lib.hid hmk
  have emk : (m : Int) - (k0 : Int) = (mk : Int) := by omega
  have hmk1 : mk ≤ 100 := by omega
  rw [← hmk]
  clear hM hg hs hV hC hcap hD hdl hd0 hB hmk
  go_enter Tryd.func68, Tryd.ntmps68
  go_wp2_with (at_make; refine zdl elR rfl _ _ rfl IsR mk rfl rfl rfl (by omega) (base := w.heap.size) (S := fun _ => False) (Nat.le_refl _) (fun b h => h.elim) ?_; intro v0 w0 hown0 hb0 hz0)
  have O0 := Lib.hid hown0
  have B0 := Lib.hid hb0
  clear hown0 hb0 g0 ci
  go_loopw [7, 8] (fun out jj wr => ∃ (t : Nat) (S2 : Nat → Prop), t ≤ mk ∧ jj = .int .i64 (((k0 + t : Nat)) : Int) ∧ Below w.heap.size w wr ∧ OwnS 3 50 IsR wr w.heap.size S2 out (rawV (rowQ A np d i k0 t)) ∧ Hid (∀ b, S2 b → w.heap.size ≤ b)) (fun _ jj _ => m - (intOf jj).toNat)
  case atStart => exact ⟨0, fun _ => False, Nat.zero_le _, rfl, B0.out, O0.out, fun b h => h.elim⟩
  case round =>
    obtain ⟨t, S2, ht, rfl, hbw, hown, hS⟩ := hrel
    have HW := Lib.hid hbw
    have OW := Lib.hid hown
    have g0 := zac hbw CC.out.1
    have ci := zac hbw CC.out.2
    have em := Hmk.out
    clear hbw hown
    obtain ⟨j, hj⟩ : ∃ j, j = k0 + t := ⟨_, rfl⟩
    rw [← hj]
    rcases Nat.lt_or_ge t mk with hlt | hge
    · have hjm : j < m := by omega
      have Hj := Lib.hid hj
      have Hem := Lib.hid em
      clear hj em
      go_wp2_with fail
      have MX := HM.out.next HW.out (T := S) (fun b h => h) (fun b h => .inl h)
      refine (at_s MX (HG.out.next HW.out) (IsK.stb.to HD.out (fun b hb => ⟨hb, fun o => (HW.out).cell (p := ⟨b, o, none⟩) (HM.out.sS b hb)⟩)) (Bru.next HB.out HW.out) hn hm hnp hi hjm (Hs.out j hjm) Hdl.out Hd0.out).mono ?_
      rintro e w2 ⟨⟨v2, rfl, hv2⟩, hb2⟩
      obtain ⟨s2, P2, k2, O2, l2, rfl, _, _, _⟩ := zam hv2
      have hown2 := OwnS.step IsR.stb (T := fun b => S2 b ∨ (wr.heap.size ≤ b ∧ b < w2.heap.size)) OW.out hb2 (fun b h => .inl h) (fun b h => h)
      have hel2 := IsQ.stb.to hv2 (zay (T := fun b => S2 b ∨ (wr.heap.size ≤ b ∧ b < w2.heap.size)) fun b h => .inr h)
      have HW2 := Lib.hid (zaa HW.out hb2)
      have hbase : w.heap.size ≤ w2.heap.size := HW2.out.size
      have hsz := HW.out.size
      clear hb2 hv2 MX g0 ci
      go_wp2_with (at_builtin; refine zcp elR rfl _ _ rfl IsR.stb rfl rfl rfl hown2 hel2 rfl (by intro u hu; simp [Value.cells] at hu; rcases hu with rfl | rfl | rfl <;> rfl) (by rw [show (rawV (rowQ A np d i k0 t)).length = t by simp [rawV, rowQ_len]]; omega) hbase ?_; intro v4 w4 hown4 hb4 hz4)
      go_roundw
      case rel =>
        refine ⟨t + 1, fun b => S2 b ∨ (wr.heap.size ≤ b ∧ b < w2.heap.size), hlt, by rw [Hj.out]; go_num, HW2.out.trans hb4, ?_, fun b hb => by rcases hb with hb | hb; exact hS.out b hb; omega⟩
        rw [rowQ_snoc, ← Hj.out, rawV, List.map_append]
        exact hown4
      case measure => have := Hj.out; have := Hem.out; simp [intOf]; omega
    · have hjm : ¬ j < m := by omega
      obtain rfl : t = mk := by omega
      clear hj em
      go_wp2_with fail
      go_ret
      exact ⟨⟨_, rfl, OwnS.isS IsR.stb (T := New w.heap.size wr) OW.out (fun b hb => ⟨hS.out b hb, by obtain ⟨_, _, _, _, h4⟩ := OW.out; exact (h4 b hb).1⟩) (fun b h1 h2 => ⟨h1, h2⟩)⟩, HW.out⟩
theorem wp_appS2 {P : Program} {w : World} {ops : Array Oper} {rest : List Oper} {o : Oper} {a : Act} {Q : Exit → Act → World → Prop} {t e : TypeId} {n bytes : Nat} (E : ElN P t e n bytes) (hgd : o.guard = none) (s x : Operand) (ho : o.op = .call { callee := .builtin .append, args := #[s, x], argTypes := #[t, t] })
    {α : Type} {R : World → (Nat → Prop) → Value → α → Prop} (hR : Stb R) {base g : Nat} {S : Nat → Prop} {v ev : Value} {l : List α} {y : α} {te : TypeId} {cs : Array Value}
    (hs : a.eval s = v) (hx : a.eval x = .slice (some ⟨g, 0, none⟩) 1 1) (hgw : g = w.heap.size) (hcs : cs = ev.cells) (hown : OwnS n e R w base S v l) (he : R w S ev y) (hn : ev.cells.size = n)
    (h1 : ∀ u ∈ ev.cells, u.oneCell' = true) (hb : (l.length + 1) * (bytes + 1) ≤ 140737488355328) (hbase : base ≤ w.heap.size)
    (h : ∀ v' w', OwnS n e R w' base S v' (l ++ [y]) → Below base w w' → w.heap.size ≤ w'.heap.size → wpList P ops Q rest (a.put o.dst v') w') : wpList P ops Q (o :: rest) a (w.alloc (.cells cs te)) := by
  subst hgw
  exact zcp E hgd s x ho hR hs hx hcs hown he hn h1 hb hbase h
def zbv (i j : Nat) : List Rat := (List.range j).map fun t => if i = t then 1 else 0
theorem unitTo_snoc (i j : Nat) : zbv i (j + 1) = zbv i j ++ [if i = j then 1 else 0] := by unfold zbv; rw [List.range_succ, List.map_append]; rfl
theorem unitTo_len (i j : Nat) : (zbv i j).length = j := by unfold zbv; simp
def zcg (M : List (List Rat)) (n k : Nat) : List (List Rat) := (List.range k).map fun i => M.getD i [] ++ zbv i n
theorem wideTo_snoc (M : List (List Rat)) (n k : Nat) : zcg M n (k + 1) = zcg M n k ++ [M.getD k [] ++ zbv k n] := by unfold zcg; rw [List.range_succ, List.map_append]; rfl
theorem wideTo_len (M : List (List Rat)) (n k : Nat) : (zcg M n k).length = k := by unfold zcg; simp
theorem rawM_one (m : List (List Rat)) (x : List Rat) : rawM (m ++ [x]) = rawM m ++ [rawV x] := by simp [rawM]
theorem rawV_app (a b : List Rat) : rawV (a ++ b) = rawV a ++ rawV b := by simp [rawV]
theorem isV_ne {r : List Rat} {n : Nat} (h : r.length = n) (hn : 1 ≤ n) : rawV r ≠ [] := fun e => by have := congrArg List.length e; simp [rawV, h] at this; omega
def invQ (n : Nat) (s : RS) : List (List Rat) := (List.range n).map fun i => rowQ s.A s.piv.length s.d i n n
def invTo (n : Nat) (s : RS) (k : Nat) : List (List Rat) := (List.range k).map fun i => rowQ s.A s.piv.length s.d i n n
theorem invTo_snoc (n : Nat) (s : RS) (k : Nat) : invTo n s (k + 1) = invTo n s k ++ [rowQ s.A s.piv.length s.d k n n] := by unfold invTo; rw [List.range_succ, List.map_append]; rfl
theorem invTo_len (n : Nat) (s : RS) (k : Nat) : (invTo n s k).length = k := by unfold invTo; simp
theorem bndM_open (v : Value) (m : List (List Rat)) : ∃ vv ee, bndM v m = .returned (.tuple #[vv, .int .i64 ee]) := ⟨_, _, rfl⟩
theorem bndV_open (v : Value) (m : List Rat) : ∃ vv ee, bndV v m = .returned (.tuple #[vv, .int .i64 ee]) := ⟨_, _, rfl⟩
theorem unitTo_sz (i j : Nat) : ∀ q ∈ zbv i j, Sz q 1024 := fun q hq => by
  unfold zbv at hq
  obtain ⟨t, _, rfl⟩ := List.mem_map.1 hq
  split
  · exact ⟨by rw [show (1 : Rat).num.natAbs = 1 from rfl, zde]; decide, by rw [show (1 : Rat).den = 1 from rfl, zde]; decide⟩
  · exact Sz.zero.le (by omega)
theorem wideTo_row {M : List (List Rat)} {n k : Nat} (hn : M.length = n) (hrow : ∀ r ∈ M, r.length = n) (hs : ∀ r ∈ M, ∀ q ∈ r, Sz q 1024) (hk : k ≤ n) : ∀ r ∈ zcg M n k, r.length = n + n ∧ ∀ q ∈ r, Sz q 1024 := fun r hr => by
  unfold zcg at hr
  obtain ⟨i, hi, rfl⟩ := List.mem_map.1 hr
  have hi := List.mem_range.1 hi
  have hm : M.getD i [] ∈ M := by
    rw [List.getD_eq_getElem?_getD, List.getElem?_eq_getElem (by omega)]
    exact List.getElem_mem _
  refine ⟨by rw [List.length_append, hrow _ hm, unitTo_len], fun q hq => ?_⟩
  rcases List.mem_append.1 hq with h | h
  · exact hs _ hm q h
  · exact unitTo_sz _ _ q h
theorem bnd_len {n m : Nat} {s : RS} (h : BndS n m s) {i j : Nat} (hi : i < n) (hj : j < m) : (lim (s.A i j).natAbs).length ≤ 1000000 := by
  have := (h.1 i j hi hj).1
  rw [Rat.num_intCast] at this
  omega
set_option maxRecDepth 100000 in
set_option maxHeartbeats 8000000 in
theorem inverse_l {w : World} {v : Value} {M : List (List Rat)} {n : Nat} {s : RS} (h : IsM w (Old w) v (rawM M)) (hB : Bru w) (hn : M.length = n) (hrow : ∀ r ∈ M, r.length = n) (hs : ∀ r ∈ M, ∀ q ∈ r, Sz q 1024) (hn1 : 1 ≤ n) (hn9 : n ≤ 20) (hf : chkM (rawM M) = 0)
    (hbnd : ∀ k, k ≤ n → BndS n (n + n) (runK n (n + n) (zbj (zcg M n n)) k)) (hsr : s = runK n (n + n) (zbj (zcg M n n)) n) :
    Calls Tryd.prog 39 #[v] w fun e w' => ((s.piv.length < n → e = .returned (.tuple #[.slice none 0 0, .int .i64 15])) ∧ (n ≤ s.piv.length → ∃ v', e = bndM v' (invQ n s) ∧ IsM w' (Old w') v' (rawM (invQ n s)))) ∧ Below w.heap.size w w' := by
  have H := Lib.hid h
  have HB := Lib.hid hB
  have Hn := Lib.hid hn
  have Hrow := Lib.hid hrow
  have Hs := Lib.hid hs
  have Hbnd := Lib.hid hbnd
  have Hsr := Lib.hid hsr
  have Hf := Lib.hid hf
  obtain ⟨A, c, rfl, hl⟩ := zca h
  have el : (rawM M).length = n := by simp [rawM, hn]
  rw [el] at H hl ⊢
  have Hcol : Hid (((rawM M).headD []).length = n) := by
    cases M with
    | nil => simp at hn; omega
    | cons r t => exact (zbn r).trans (hrow r (List.mem_cons_self ..))
  clear h hB hn hrow hs hbnd hsr hf el
  go_enter Tryd.func39, Tryd.ntmps39
  go_wp2_with fail
  refine (form_l H.out HB.out).mono ?_
  rw [Hf.out]
  rintro e w1 ⟨rfl, hb1⟩
  have HB1 := Lib.hid hb1
  clear hb1
  go_wp2_with fail
  refine (zfr (IsM.stb.to H.out (zba HB1.out))).mono ?_
  rw [Hcol.out]
  rintro e w2 ⟨rfl, rfl⟩
  go_wp2_with (at_make; refine zdl elV rfl _ _ rfl IsV n rfl rfl rfl (by omega) (base := w1.heap.size) (S := fun _ => False) (Nat.le_refl _) (fun b h => h.elim) ?_; intro v0 w0 hown0 hb0 hz0)
  have O0 := Lib.hid hown0
  have HB0 := Lib.hid (zaa HB1.out hb0)
  have hz1 := HB1.out.size
  have Hz0 := Lib.hid hz0
  clear hown0 hb0 hz0
  go_loopw [30, 6, 7, 8, 9, 10, 11] (fun ii wd _ _ _ _ _ wr => ∃ (k : Nat) (S : Nat → Prop), k ≤ n ∧ ii = .int .i64 (k : Int) ∧ Below w.heap.size w wr ∧ Hid (OwnS 1 29 IsV wr w1.heap.size S wd (rawM (zcg M n k))) ∧ Hid (∀ b, b < w.heap.size → S b) ∧ Hid (w1.heap.size ≤ wr.heap.size)) (fun ii _ _ _ _ _ _ _ => n - (intOf ii).toNat)
  case atStart =>
    refine ⟨0, Old w, Nat.zero_le _, rfl, HB0.out, ?_, fun b h => h, ?_⟩
    · exact O0.out.wider IsV.stb (fun b h => h.elim) fun b h => ⟨by have h : b < w.heap.size := h; have := HB0.out.size; omega, fun e => by have := (O0.out.own_lt b e.symm).1; have h : b < w.heap.size := h; omega⟩
    · exact Hz0.out
  case round =>
    obtain ⟨k, S, hk, rfl, hbw, hown, hS, hzr⟩ := hrel
    obtain ⟨wi, rfl⟩ : ∃ x, x = wr := ⟨_, rfl⟩
    have HW := Lib.hid hbw
    rcases Nat.lt_or_ge k n with hlt | hge
    · obtain ⟨r, hr, hrr⟩ := zeg (m := M) (j := k) (by rw [Hn.out]; exact hlt)
      obtain ⟨b2, o2, R1, R2, rfl, hSb, helr, d0⟩ := zcr H.out hrr
      have er : r.length = n := Hrow.out r (List.mem_of_getElem? hr)
      rw [zbn r, er] at d0 helr
      replace d0 := hbw.cell (p := ⟨b2, o2 + k, none⟩) hSb |>.trans d0
      have VR : Hid (IsV wi (Old w) (.slice R1 n R2) (rawV r)) := IsV.stb.to helr fun b hb => ⟨hb, fun o => hbw.cell (p := ⟨b, o, none⟩) hb⟩
      have Hr := Lib.hid hr
      have Er := Lib.hid er
      have hwl := hbw.size
      clear hr hrr helr hSb hbw er
      go_wp2_with (at_builtin; refine wp_cloneS elR rfl _ _ rfl IsR.stb rfl rfl VR.out (isV_ne Er.out hn1) (fun b h => Nat.lt_of_lt_of_le h hwl) (fun e x h => isR_one h) (by rw [zbn, Er.out]; omega) (base := wi.heap.size) (Nat.le_refl _) ?_; intro v3 w3 hown3 hb3)
      have O3 := Lib.hid hown3
      have HB3 := Lib.hid hb3
      clear hown3 hb3 d0
      go_loopw [38, 9, 10, 11] (fun jj ln _ _ wr => ∃ (j : Nat) (T : Nat → Prop), j ≤ n ∧ jj = .int .i64 (j : Int) ∧ Below wi.heap.size wi wr ∧ Hid (OwnS 3 50 IsR wr wi.heap.size T ln (rawV (r ++ zbv k j))) ∧ Hid (∀ b, T b → b < w.heap.size ∨ wi.heap.size ≤ b) ∧ Hid (∀ b, b < w.heap.size → T b)) (fun jj _ _ _ _ => n - (intOf jj).toNat)
      case atStart => exact ⟨0, Old w, Nat.zero_le _, rfl, HB3.out, by rw [show r ++ zbv k 0 = r by simp [zbv]]; exact O3.out, fun b h => .inl h, fun b h => h⟩
      case round =>
        obtain ⟨j, T, hj, rfl, hbw, hownT, hT, hT0⟩ := hrel
        have HWr := Lib.hid hbw
        have hszr := hbw.size
        rcases Nat.lt_or_ge j n with hjlt | hjge
        · clear hbw
          go_wp2_with fail
          refine (zero_q wr).mono ?_
          rintro e w4 ⟨⟨v4, rfl, hv4⟩, hb4⟩
          obtain ⟨s4, P4, k4, O4, l4, rfl, _, _, _⟩ := zam hv4
          obtain ⟨z1, hz1⟩ : ∃ z, z = (lim (0 : Rat).num.natAbs).length := ⟨_, rfl⟩
          obtain ⟨z2, hz2⟩ : ∃ z, z = (lim (0 : Rat).den).length := ⟨_, rfl⟩
          rw [← hz1, ← hz2] at hv4 ⊢
          clear hz1 hz2
          obtain ⟨wx, hwx, hbx, rE, Hzx⟩ := zcf w4 #[.bool s4, .slice P4 z1 k4, .slice O4 z2 l4] 50
          have hs4 := hb4.size
          have BX := Lib.hid (zaa hb4 hbx)
          have OX : Hid (OwnS 3 50 IsR wx wi.heap.size (fun b => T b ∨ (wr.heap.size ≤ b ∧ b < w4.heap.size)) u9 (rawV (r ++ zbv k j))) := OwnS.step IsR.stb hownT.out BX.out (fun b h => .inl h) (fun b h => h.imp id fun h => ⟨h.1, by have := Hzx.out; omega⟩)
          have hbase : wi.heap.size ≤ wx.heap.size := by have := Hzx.out; omega
          have HWx := Lib.hid (zaa HWr.out BX.out)
          have RE := Lib.hid rE
          have hlen : (rawV (r ++ zbv k j)).length = n + j := by rw [zbn, List.length_append, Er.out, unitTo_len]
          by_cases hik : k = j
          · have hbq : ((k : Int) == (j : Int)) = true := by simp [hik]
            have Hik := Lib.hid hik
            clear hv4 hb4 hbx rE hik
            go_wp2_with fail
            refine (one_n wx).mono ?_
            rintro e w5 ⟨⟨v5, rfl, hv5⟩, hb5⟩
            have N5 := Lib.hid (zal (isN_old hv5))
            obtain ⟨A5, c5, rfl, _⟩ := id hv5
            have B5 := Lib.hid hb5
            clear hv5 hb5
            go_wp2_with fail
            refine (whole_f N5.out (by rw [zde]; decide)).mono ?_
            rintro e w6 ⟨⟨v6, rfl, hv6⟩, hb6⟩
            obtain ⟨s6, P6, k6, O6, l6, rfl, _, _, _⟩ := zam hv6
            obtain ⟨z3, hz3⟩ : ∃ z, z = (lim (((1 : Nat) : Int) : Rat).num.natAbs).length := ⟨_, rfl⟩
            obtain ⟨z4, hz4⟩ : ∃ z, z = (lim (((1 : Nat) : Int) : Rat).den).length := ⟨_, rfl⟩
            rw [← hz3, ← hz4] at hv6 ⊢
            clear hz3 hz4
            have B6 := Lib.hid (zaa B5.out hb6)
            have R6 := Lib.hid (RE.out.next B6.out)
            obtain ⟨c0, c1, c2⟩ := zad R6.out
            obtain ⟨f0, f1, f2⟩ := zaq R6.out
            have hs5 := B5.out.size
            have hs6 := hb6.size
            have OW6 : Hid (OwnS 3 50 IsR w6 wi.heap.size (fun b => T b ∨ (wr.heap.size ≤ b ∧ b < w4.heap.size) ∨ (wx.heap.size ≤ b ∧ b < w6.heap.size)) u9 (rawV (r ++ zbv k j))) := OwnS.step IsR.stb OX.out B6.out (fun b h => h.elim .inl fun h => .inr (.inl h)) (fun b h => by rcases h with h | h | h; exact .inl (.inl h); exact .inl (.inr h); exact .inr h)
            obtain ⟨wp, hwp⟩ : ∃ x, x = put3 w6 w4.heap.size (.bool s6) (.slice P6 z3 k6) (.slice O6 z4 l6) := ⟨_, rfl⟩
            have hszp : Hid (wp.heap.size = w6.heap.size) := by rw [Hid, hwp, zcz]
            have hzxx := Hzx
            have RP : Hid (Row wp w4.heap.size 50 [.bool s6, .slice P6 z3 k6, .slice O6 z4 l6]) := by rw [Hid, hwp]; exact R6.out.put3 _ _ _
            have gp : w6.grownBy wp (some w4.heap.size) := by rw [hwp]; exact zap (zap (zcl _ _ _ _) (zcl _ _ _ _)) (zcl _ _ _ _)
            have hob := hownT.out.own_lt
            have OP : Hid (OwnS 3 50 IsR wp wi.heap.size (fun b => T b ∨ (wr.heap.size ≤ b ∧ b < w4.heap.size) ∨ (wx.heap.size ≤ b ∧ b < w6.heap.size)) u9 (rawV (r ++ zbv k j))) := OW6.out.grown IsR.stb gp fun b e => by
              cases e
              have hzx := Hzx.out
              refine ⟨fun e2 => by have := (hob _ e2).2; omega, fun h => ?_⟩
              rcases h with h | h | h
              · obtain ⟨_, _, _, _, h4⟩ := hownT.out
                have := (h4 _ h).1
                omega
              · omega
              · omega
            have EP : Hid (IsR wp (fun b => T b ∨ (wr.heap.size ≤ b ∧ b < w4.heap.size) ∨ (wx.heap.size ≤ b ∧ b < w6.heap.size)) (.agg #[.bool s6, .slice P6 z3 k6, .slice O6 z4 l6]) (raw (((1 : Nat) : Int) : Rat))) := by
              rw [Hid, hwp]
              have hzx := Hzx.out
              exact IsQ.stb.to hv6 (zcu fun b h => ⟨by have := h.1; omega, .inr (.inr ⟨by have := h.1; omega, h.2⟩)⟩)
            have HWp : Hid (Below wi.heap.size wi wp) := by rw [Hid, hwp]; exact zdb (zaa HWx.out B6.out) (by have := Hzx.out; omega) _ _ _
            have hbase2 : wi.heap.size ≤ wp.heap.size := by have := hszp.out; have := Hzx.out; omega
            have hzw := Nat.le_trans hszr hs4
            subst hwp
            obtain ⟨g0, g1, g2⟩ := zad RP.out
            clear hv6 hb6 hob gp hzxx
            go_wp2_with (at_builtin; refine wp_appS2 elR rfl _ _ rfl IsR.stb rfl rfl (by rw [zcz]) rfl OP.out EP.out rfl (by intro u hu; simp [Value.cells] at hu; rcases hu with rfl | rfl | rfl <;> rfl) (by rw [hlen]; omega) hbase2 ?_; intro v7 w7 hown7 hb7 hz7)
            go_roundw
            case rel =>
              refine ⟨j + 1, fun b => T b ∨ (wr.heap.size ≤ b ∧ b < w4.heap.size) ∨ (wx.heap.size ≤ b ∧ b < w6.heap.size), hjlt, by go_num, HWp.out.trans hb7, ?_, fun b h => ?_, fun b h => .inl (hT0.out b h)⟩
              · rw [unitTo_snoc, if_pos Hik.out, ← List.append_assoc, rawV_app (r ++ zbv k j)]
                exact hown7
              · have hzx := Hzx.out
                rcases h with h | h | h
                · exact hT.out b h
                · exact .inr (by omega)
                · exact .inr (by omega)
            case measure => simp [intOf]; omega
          · have hii : ¬ ((k : Int) = (j : Int)) := by omega
            have EX : Hid (IsR wx (fun b => T b ∨ (wr.heap.size ≤ b ∧ b < w4.heap.size)) (.agg #[.bool s4, .slice P4 z1 k4, .slice O4 z2 l4]) (raw 0)) := IsQ.stb.to hv4 fun b hb => ⟨.inr hb, fun o => hbx.cell (p := ⟨b, o, none⟩) hb.2⟩
            obtain ⟨g0, g1, g2⟩ := zad rE
            clear hv4 hb4 hbx rE
            go_wp2_with (at_builtin; refine zcp elR rfl _ _ rfl IsR.stb rfl rfl rfl OX.out EX.out rfl (by intro u hu; simp [Value.cells] at hu; rcases hu with rfl | rfl | rfl <;> rfl) (by rw [hlen]; omega) hbase ?_; intro v7 w7 hown7 hb7 hz7)
            go_roundw
            case rel =>
              refine ⟨j + 1, fun b => T b ∨ (wr.heap.size ≤ b ∧ b < w4.heap.size), hjlt, by go_num, HWx.out.trans hb7, ?_, fun b h => ?_, fun b h => .inl (hT0.out b h)⟩
              · rw [unitTo_snoc, if_neg hik, ← List.append_assoc, rawV_app (r ++ zbv k j)]
                exact hown7
              · rcases h with h | h
                · exact hT.out b h
                · exact .inr (by omega)
            case measure => simp [intOf]; omega
        · obtain rfl : j = n := by omega
          have hjn : ¬ j < j := by omega
          have hown9 := hownT.out
          have hsz9 := hbw.size
          have Own9 : Hid (OwnS 1 29 IsV wr w1.heap.size (fun b => S b ∨ (wi.heap.size ≤ b ∧ b < wr.heap.size)) u6 (rawM (zcg M j k))) := OwnS.step IsV.stb hown.out hbw (fun b h => .inl h) (fun b h => h)
          have El9 : Hid (IsV wr (fun b => S b ∨ (wi.heap.size ≤ b ∧ b < wr.heap.size)) u9 (rawV (r ++ zbv k j))) := hown9.isS IsR.stb (T := fun b => S b ∨ (wi.heap.size ≤ b ∧ b < wr.heap.size)) (fun b h => by
            rcases hT.out b h with h1 | h1
            · exact .inl (hS.out b h1)
            · obtain ⟨_, _, _, _, h4⟩ := hown9
              exact .inr ⟨h1, (h4 b h).1⟩) (fun b h1 h2 => .inr ⟨h1, h2⟩)
          obtain ⟨A9, c9, rfl⟩ := hown9.slice
          have hbase9 : w1.heap.size ≤ wr.heap.size := by have := hzr.out; omega
          have hrk : r = M.getD k [] := by rw [List.getD_eq_getElem?_getD, Hr.out]; rfl
          have Hrk := Lib.hid hrk
          have HW9 := Lib.hid (zaa HW.out hbw)
          clear hown9 hbw hrk
          go_wp2_with (at_builtin; refine zcp elV rfl _ _ rfl IsV.stb rfl rfl rfl Own9.out El9.out rfl (by intro u hu; simp [Value.cells] at hu; subst hu; rfl) (by rw [zbs, wideTo_len]; omega) hbase9 ?_; intro v7 w7 hown7 hb7 hz7)
          go_roundw
          case rel =>
            refine ⟨k + 1, fun b => S b ∨ (wi.heap.size ≤ b ∧ b < wr.heap.size), hlt, by go_num, HW9.out.trans (hb7.mono hz1), ?_, fun b h => .inl (hS.out b h), Nat.le_trans hbase9 hz7⟩
            rw [wideTo_snoc, rawM_one, ← Hrk.out]
            exact hown7
          case measure => simp [intOf]; omega
    · obtain rfl : k = n := by omega
      have hkn : ¬ k < k := by omega
      have HI : Hid (IsM wi (Old wi) u6 (rawM (zcg M k k))) := hown.out.isS IsV.stb (fun b h => by obtain ⟨_, _, _, _, h4⟩ := hown.out; exact (h4 b h).1) (fun b _ h => h)
      obtain ⟨A9, c9, rfl⟩ := hown.out.slice
      have hBi := Lib.hid (Bru.next HB.out hbw)
      have hwr := wideTo_row Hn.out Hrow.out Hs.out (Nat.le_refl k)
      have hc := reduced_l HI.out hBi.out (wideTo_len M k k) (fun r h => (hwr r h).1) (fun r h => (hwr r h).2) hn1 (by omega) (by omega) (by omega) (width := k) (by omega) Hbnd.out
      rw [← Hsr.out] at hc
      have Hc := Lib.hid hc
      clear hc hwr hbw hown
      go_wp2_with fail
      refine Hc.out.mono ?_
      rintro e w3 ⟨⟨v3, rfl, hg⟩, hb3⟩
      obtain ⟨G, r0, c0, S', rb, cp, Pv, D, cv, cd, rfl, hGr⟩ := hg
      have HG := Lib.hid hGr
      have HW3 := Lib.hid (zaa HW.out hb3)
      have g1 := hGr.row.cell 1
      simp at g1
      obtain ⟨np, hnp⟩ : ∃ x, x = s.piv.length := ⟨_, rfl⟩
      rw [← hnp] at g1
      have Hnp := Lib.hid hnp
      clear hb3 hGr Hc
      rcases Nat.lt_or_ge np k with hnk | hnk
      · have hnk' : (np : Int) < (k : Int) := by omega
        clear hnp
        go_wp2_with fail
        go_ret2
        exact ⟨⟨fun _ => rfl, fun h => by have := Hnp.out; omega⟩, HW3.out⟩
      · have hnk' : ¬ ((np : Int) < (k : Int)) := by omega
        have hz3 := HW3.out.size
        clear hnp
        go_wp2_with (at_make; refine zdl elV rfl _ _ rfl IsV k rfl rfl rfl (by omega) (base := w3.heap.size) (S := fun _ => False) (Nat.le_refl _) (fun b h => h.elim) ?_; intro v4 w4 hown4 hb4 hz4)
        have O4 := Lib.hid hown4
        have HB4 := Lib.hid hb4
        clear hown4 hb4 hz4 g1
        go_loopw [70, 13, 14] (fun ii ov _ wr => ∃ (i : Nat) (S : Nat → Prop), i ≤ k ∧ ii = .int .i64 (i : Int) ∧ Below w3.heap.size w3 wr ∧ Hid (OwnS 1 29 IsV wr w3.heap.size S ov (rawM (invTo k s i)))) (fun ii _ _ _ => k - (intOf ii).toNat)
        case atStart => exact ⟨0, fun _ => False, Nat.zero_le _, rfl, HB4.out, O4.out⟩
        case round =>
          obtain ⟨i, S2, hi, rfl, hbw, hown⟩ := hrel
          have HWr := Lib.hid hbw
          rcases Nat.lt_or_ge i k with hlt | hge
          · have Hlt := Lib.hid hlt
            clear hbw
            go_wp2_with fail
            have hG := HG.out
            have hbs := Hbnd.out k (Nat.le_refl k)
            rw [← Hsr.out] at hbs
            have hlp : s.piv.length ≤ k := by rw [Hsr.out]; exact runK_len k
            refine (row_s (hG.mat.next HWr.out (fun b h => h) (fun b h => .inl h)) (hG.row.next HWr.out) (IsK.stb.to hG.num fun b hb => ⟨hb, fun o => HWr.out.cell (p := ⟨b, o, none⟩) (hG.mat.sS b hb)⟩) (Bru.next HB.out (zaa HW3.out HWr.out)) (by omega) (by omega) (by omega) hlt (by omega)
              (fun j hj => bnd_len hbs hlt hj) hbs.2.1 (Nat.pos_iff_ne_zero.1 hbs.2.2)).mono ?_
            rintro e w5 ⟨⟨v5, rfl, hv5⟩, hb5⟩
            rw [show k + k - k = k by omega] at hv5
            have Own5 := Lib.hid (OwnS.step IsV.stb (T := fun b => S2 b ∨ (wr.heap.size ≤ b ∧ b < w5.heap.size)) hown.out hb5 (fun b h => .inl h) (fun b h => h))
            have El5 : Hid (IsV w5 (fun b => S2 b ∨ (wr.heap.size ≤ b ∧ b < w5.heap.size)) v5 (rawV (rowQ s.A s.piv.length s.d i k k))) := IsV.stb.to hv5 (zay fun b h => .inr h)
            obtain ⟨P5, k5, rfl, _⟩ := zcm hv5
            have HW5 := Lib.hid (zaa HWr.out hb5)
            have hbase : w3.heap.size ≤ w5.heap.size := HW5.out.size
            clear hv5 hb5 hG hbs hlp
            go_wp2_with (at_builtin; refine zcp elV rfl _ _ rfl IsV.stb rfl rfl rfl Own5.out El5.out rfl (by intro u hu; simp [Value.cells] at hu; subst hu; rfl) (by rw [zbs, invTo_len]; omega) hbase ?_; intro v7 w7 hown7 hb7 hz7)
            go_roundw
            case rel =>
              refine ⟨i + 1, fun b => S2 b ∨ (wr.heap.size ≤ b ∧ b < w5.heap.size), hlt, by go_num, HW5.out.trans hb7, ?_⟩
              rw [invTo_snoc, rawM_one]
              exact hown7
            case measure => simp [intOf]; omega
          · obtain rfl : i = k := by omega
            have hik : ¬ i < i := by omega
            obtain ⟨A8, c8, rfl⟩ := hown.out.slice
            have HI8 : Hid (IsM wr (Old wr) (.slice A8 (rawM (invTo i s i)).length c8) (rawM (invTo i s i))) := hown.out.isS IsV.stb (fun b h => by obtain ⟨_, _, _, _, h4⟩ := hown.out; exact (h4 b h).1) (fun b _ h => h)
            clear hbw
            go_wp2_with fail
            obtain ⟨vv, ee, hbm⟩ := bndM_open (.slice A8 (rawM (invTo i s i)).length c8) (invTo i s i)
            have Hbm := Lib.hid hbm
            refine (boundedRows_l HI8.out).mono ?_
            rw [hbm]
            clear hbm
            rintro e w6 ⟨rfl, hb6⟩
            have HI9 := Lib.hid (IsM.stb.to HI8.out (zba hb6))
            have HW6 := Lib.hid (zaa HW3.out (zaa HWr.out hb6))
            clear hb6
            go_wp2_with fail
            go_ret2
            exact ⟨⟨fun h => by have := Hnp.out; omega, fun _ => ⟨_, Hbm.out.symm, HI9.out⟩⟩, HW6.out⟩
theorem open114 {l : List Value} (h : l.length = 114) : ∃ fs : Nat → Value, l = [fs 0, fs 1, fs 2, fs 3, fs 4, fs 5, fs 6, fs 7, fs 8, fs 9, fs 10, fs 11, fs 12, fs 13, fs 14, fs 15, fs 16, fs 17, fs 18, fs 19, fs 20, fs 21, fs 22, fs 23, fs 24, fs 25, fs 26, fs 27, fs 28, fs 29, fs 30, fs 31, fs 32, fs 33, fs 34, fs 35, fs 36, fs 37, fs 38, fs 39, fs 40, fs 41, fs 42, fs 43, fs 44, fs 45, fs 46, fs 47, fs 48, fs 49, fs 50, fs 51, fs 52, fs 53, fs 54, fs 55, fs 56, fs 57, fs 58, fs 59, fs 60, fs 61, fs 62, fs 63, fs 64, fs 65, fs 66, fs 67, fs 68, fs 69, fs 70, fs 71, fs 72, fs 73, fs 74, fs 75, fs 76, fs 77, fs 78, fs 79, fs 80, fs 81, fs 82, fs 83, fs 84, fs 85, fs 86, fs 87, fs 88, fs 89, fs 90, fs 91, fs 92, fs 93, fs 94, fs 95, fs 96, fs 97, fs 98, fs 99, fs 100, fs 101, fs 102, fs 103, fs 104, fs 105, fs 106, fs 107, fs 108, fs 109, fs 110, fs 111, fs 112, fs 113] := by
  refine ⟨fun i => l.getD i undef, ?_⟩
  have e : l = (List.range 114).map (fun i => l.getD i undef) := by
    apply List.ext_getElem
    · simp [h]
    · intro i h1 h2
      simp [List.getD_eq_getElem?_getD, List.getElem?_eq_getElem h1]
  exact e.trans rfl
def PhiW (vw : Value) (R1 : Option Addr) (m R2 b3 o3 n cB k : Nat) (x0 : Bool) (X1 : Option Addr) (x1 X2 : Nat) (X3 : Option Addr) (x2 X4 : Nat) (l : List Raw) (y : Raw) (lo n0 : Nat) (i : Nat) (v : Value) (w : World) (X : Nat → Option Value) : Prop :=
  match i with
  | 0 => v = vw
  | 1 => v = .slice R1 m R2
  | 2 => ((X 8 = none → OwnS 3 50 IsR w n0 (fun b => b < lo) v l) ∧ (∀ b, v.ownBlock = some b → n0 ≤ b))
  | 3 => v = .slice (some ⟨b3, o3, none⟩) n cB
  | 4 => v = .int .i64 (k : Int)
  | 5 => v = .pointer (some ⟨b3, (o3 + k * 3), none⟩)
  | 6 => v = .agg #[.bool x0, .slice X1 x1 X2, .slice X3 x2 X4]
  | 7 => (X 8 = none → NewRow w n0 50 [.bool x0, .slice X1 x1 X2, .slice X3 x2 X4] v)
  | 8 => (OwnS 3 50 IsR w n0 (fun b => b < lo) v (l ++ [y]) ∧ (∀ b, v.ownBlock = some b → n0 ≤ b))
  | 9 => (∃ q, X 8 = some q ∧ NewRow w n0 29 [q] v)
  | _ => True
def stepW (n0 k : Nat) (w w' : World) : Prop := ∃ r, w.grownBy w' r ∧ (r = none ∨ (k = 8 ∧ ∀ b, r = some b → n0 ≤ b))
theorem zcj {n0 k : Nat} {w w' : World} (h : w.grownBy w' none) : stepW n0 k w w' := ⟨none, h, .inl rfl⟩
theorem stepW_below {n0 k : Nat} {w0 w w' : World} (h : Below n0 w0 w) (hn : n0 ≤ w.heap.size) (hE : stepW n0 k w w') : Below n0 w0 w' := by
  obtain ⟨r, hg, hr⟩ := hE
  refine h.grown hg hn fun b e => ?_
  rcases hr with rfl | ⟨_, h⟩
  · cases e
  · exact h b e
theorem phiW_st {vw : Value} {R1 : Option Addr} {m R2 b3 o3 n cB k : Nat} {x0 : Bool} {X1 : Option Addr} {x1 X2 : Nat} {X3 : Option Addr} {x2 X4 : Nat} {l : List Raw} {y : Raw} {lo n0 : Nat} (hlo : lo ≤ n0) : ∀ i k' v w w' X u, i ≠ k' → X k' = none → PhiW vw R1 m R2 b3 o3 n cB k x0 X1 x1 X2 X3 x2 X4 l y lo n0 i v w X → stepW n0 k' w w' → PhiW vw R1 m R2 b3 o3 n cB k x0 X1 x1 X2 X3 x2 X4 l y lo n0 i v w' (updX X k' u) := fun i k' v w w' X u hik hX h hE => by
  obtain ⟨r, hg, hr⟩ := hE
  have hne : k' ≠ 8 → r = none := fun h => hr.elim id fun h' => absurd h'.1 h
  match i, hik, h with
  | 0, _, h => exact h
  | 1, _, h => exact h
  | 2, hik, h =>
    by_cases h8 : k' = 8
    · subst h8
      exact ⟨fun e => (by rw [updX, if_pos rfl] at e; cases e), h.2⟩
    · have := hne h8
      subst this
      exact ⟨fun e => (h.1 (by rw [updX_ne (Ne.symm h8)] at e; exact e)).grown IsR.stb hg (fun b e => by cases e), h.2⟩
  | 3, _, h => exact h
  | 4, _, h => exact h
  | 5, _, h => exact h
  | 6, _, h => exact h
  | 7, hik, h =>
    by_cases h8 : k' = 8
    · subst h8
      exact fun e => (by rw [updX, if_pos rfl] at e; cases e)
    · have := hne h8
      subst this
      exact fun e => (h (by rw [updX_ne (Ne.symm h8)] at e; exact e)).grown hg (fun b e => by cases e)
  | 8, hik, h =>
    have := hne (Ne.symm hik)
    subst this
    exact ⟨h.1.grown IsR.stb hg (fun b e => by cases e), h.2⟩
  | 9, hik, h =>
    obtain ⟨q, h1, h2⟩ := h
    by_cases h8 : k' = 8
    · subst h8
      rw [hX] at h1
      cases h1
    · have := hne h8
      subst this
      exact ⟨q, by rw [updX_ne (Ne.symm h8)]; exact h1, h2.grown hg (fun b e => by cases e)⟩
  | _ + 10, _, _ => exact trivial
theorem len3 {l : List Value} (h : l.length = 3) : ∃ a b c, l = [a, b, c] := by
  match l, h with
  | [a, b, c], _ => exact ⟨a, b, c, rfl⟩
theorem cellsOf_set3 {es : List Value} (h : Wid 3 es) {j : Nat} (hj : j < es.length) (x y z : Value) : cellsOf (es.set j (.agg #[x, y, z])) = (((cellsOf es).set (j * 3) x).set (j * 3 + 1) y).set (j * 3 + 2) z := by
  induction es generalizing j with
  | nil => simp at hj
  | cons v es ih =>
    obtain ⟨h1, h2⟩ := h.cons
    obtain ⟨a, b, c, hv⟩ := len3 (l := v.cells.toList) (by rw [Array.length_toList, h1])
    have e1 : cellsOf (v :: es) = a :: b :: c :: cellsOf es := by simp [cellsOf, hv]
    cases j with
    | zero => rw [e1, List.set_cons_zero]; simp [cellsOf, Value.cells]
    | succ j =>
      have e2 : cellsOf (v :: es.set j (.agg #[x, y, z])) = a :: b :: c :: cellsOf (es.set j (.agg #[x, y, z])) := by simp [cellsOf, hv]
      rw [List.set_cons_succ, e1, e2, ih h2 (by simpa using hj), show (j + 1) * 3 = j * 3 + 1 + 1 + 1 by omega, show j * 3 + 1 + 1 + 1 + 1 = j * 3 + 1 + 1 + 1 + 1 from rfl]
      simp only [List.set_cons_succ]
theorem OwnS.set3 {α : Type} {t : TypeId} {R : World → (Nat → Prop) → Value → α → Prop} (hR : Stb R) {w : World} {base g cap : Nat} {S : Nat → Prop} {l : List α} (h : OwnS 3 t R w base S (.slice (some ⟨g, 0, none⟩) l.length cap) l) {j : Nat} (hj : j < l.length) {x y z : Value} {r : α} (he : R w S (.agg #[x, y, z]) r) :
    OwnS 3 t R (putE w g j x y z) base S (.slice (some ⟨g, 0, none⟩) (l.set j r).length cap) (l.set j r) := by
  obtain ⟨es, h1, h2, h3, h4⟩ := h
  have hS : Same S S w (putE w g j x y z) := fun b hb => ⟨hb, fun o => zec (.inl fun e => (h4 b hb).2 (by rw [e]; rfl))⟩
  have hl : (l.set j r).length = l.length := List.length_set
  have hes : es.length = l.length := h3.1
  refine ⟨es.set j (.agg #[x, y, z]), ?_, ?_, ⟨by rw [List.length_set, List.length_set]; exact hes, fun i a b ha hb => ?_⟩, fun b hb => ⟨by rw [zev]; exact (h4 b hb).1, fun e => (h4 b hb).2 (by rw [e]; rfl)⟩⟩
  · rw [hl, cellsOf_set3 h2 (by omega)]
    exact (((h1.stored (j * 3) x).1.stored (j * 3 + 1) y).1.stored (j * 3 + 2) z).1
  · intro e he'
    rcases List.mem_or_eq_of_mem_set he' with h' | h'
    · exact h2 e h'
    · rw [h']; rfl
  · by_cases hij : j = i
    · subst hij
      rw [List.getElem?_set_self (by omega)] at ha
      rw [List.getElem?_set_self hj] at hb
      cases ha
      cases hb
      exact hR.to he hS
    · rw [List.getElem?_set_ne hij] at ha hb
      exact hR.to (h3.2 i a b ha hb) hS
end Go.Proofs.YtjkgdggkgljdoaaDoor
