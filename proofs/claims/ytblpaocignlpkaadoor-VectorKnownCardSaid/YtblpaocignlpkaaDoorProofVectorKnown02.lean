/-
  The zaw of package vector's turned: the columns are rows that grow side by side.
-/
import Derived.Test.YtblpaocignlpkaaDoorVkn10
import Derived.Test.YtblpaocignlpkaaDoorProofVectorKnown01
import Derived.Test.YtblpaocignlpkaaDoorVkn11
import Derived.Test.YtblpaocignlpkaaDoorVkn09
import Derived.Test.YtblpaocignlpkaaDoorVkn06
import Derived.Test.YtblpaocignlpkaaDoorVkn18
import Derived.Test.YtblpaocignlpkaaDoorVkn07
namespace Go.Proofs.YtblpaocignlpkaaDoor
open Go.RowKit
set_option linter.unusedVariables false
def colT (M : List (List Rat)) (c : Nat) : List Rat := M.map fun r => r.getD c 0
def turnQ (M : List (List Rat)) (m : Nat) : List (List Rat) := (List.range m).map (colT M)
theorem colT_snoc {M : List (List Rat)} {i c : Nat} {r : List Rat} (h : M[i]? = some r) : colT (M.take (i + 1)) c = colT (M.take i) c ++ [r.getD c 0] := by
  rw [zce h, colT, colT, List.map_append]; rfl
theorem colT_len (M : List (List Rat)) (c : Nat) : (colT M c).length = M.length := List.length_map _
def updF {α : Type} (f : Nat → α) (j : Nat) (x : α) : Nat → α := fun c => if c = j then x else f c
theorem updF_j {α : Type} (f : Nat → α) (j : Nat) (x : α) : updF f j x j = x := if_pos rfl
theorem updF_o {α : Type} (f : Nat → α) {j c : Nat} (x : α) (h : c ≠ j) : updF f j x c = f c := if_neg h
theorem range_upd {α : Type} (f : Nat → α) {j n : Nat} (x : α) (h : j < n) : (List.range n).map (updF f j x) = ((List.range n).map f).set j x := by
  apply List.ext_getElem
  · simp
  · intro i h1 h2
    rw [List.getElem_map, List.getElem_range, List.getElem_set]
    simp at h1
    by_cases hi : j = i
    · rw [if_pos hi, hi, updF_j]
    · rw [if_neg hi, updF_o _ _ (Ne.symm hi)]; simp
structure TurnW (w : World) (B m base : Nat) (sl : Nat → Value) (cols : Nat → List Raw) : Prop where
  row : Row w B 29 ((List.range m).map sl)
  own : ∀ c, c < m → OwnS 3 50 IsR w base (fun b => b < base) (sl c) (cols c)
  neB : ∀ c, c < m → (sl c).ownBlock ≠ some B
  sep : ∀ c d, c < m → d < m → c ≠ d → ∀ b, (sl c).ownBlock = some b → (sl d).ownBlock ≠ some b
  hB : base ≤ B
theorem TurnW.grown {w w' : World} {B m base : Nat} {sl : Nat → Value} {cols : Nat → List Raw} (h : TurnW w B m base sl cols) (hb : w.grownBy w' none) : TurnW w' B m base sl cols :=
  ⟨h.row.grownN hb (fun b e => (by cases e)), fun c hc => (h.own c hc).grown IsR.stb hb (fun b e => (by cases e)), h.neB, h.sep, h.hB⟩
theorem TurnW.cols {w : World} {B m base : Nat} {sl : Nat → Value} {cols cols' : Nat → List Raw} (h : TurnW w B m base sl cols) (hc : ∀ c, c < m → cols c = cols' c) : TurnW w B m base sl cols' :=
  ⟨h.row, fun c hm => by rw [← hc c hm]; exact h.own c hm, h.neB, h.sep, h.hB⟩
theorem TurnW.put {w W : World} {B m base j : Nat} {sl : Nat → Value} {cols : Nat → List Raw} {v : Value} {l : List Raw} (h : TurnW w B m base sl cols) (hj : j < m) (hg : w.grownBy W (sl j).ownBlock) (hv : OwnS 3 50 IsR W base (fun b => b < base) v l)
    (ho : v.ownBlock = (sl j).ownBlock ∨ ∃ b, v.ownBlock = some b ∧ w.heap.size ≤ b) : TurnW (W.setCell ⟨B, j, none⟩ v) B m base (updF sl j v) (updF cols j l) := by
  have hBw := h.row.lt
  have hvB : v.ownBlock ≠ some B := by
    rcases ho with e | ⟨b, e, hb⟩
    · rw [e]; exact h.neB j hj
    · rw [e]; intro e'; cases e'; omega
  refine ⟨?_, fun c hc => ?_, fun c hc => ?_, fun c d hc hd hcd b hb => ?_, h.hB⟩
  · rw [range_upd _ _ hj]
    exact (h.row.grownN hg fun b e e' => h.neB j hj (by rw [e, e'])).set_ j v
  · by_cases hcj : c = j
    · subst hcj
      rw [updF_j, updF_j]
      exact hv.grown IsR.stb (zcj W B c v) fun b e => by cases e; exact ⟨hvB, fun hlt => by have := h.hB; omega⟩
    · rw [updF_o _ _ hcj, updF_o _ _ hcj]
      have h1 := (h.own c hc).grown IsR.stb hg fun b e => ⟨h.sep j c hj hc (Ne.symm hcj) b e, fun hlt => by have := (OwnS.own_lt (h.own j hj) b e).1; omega⟩
      exact h1.grown IsR.stb (zcj W B j v) fun b e => by cases e; exact ⟨h.neB c hc, fun hlt => by have := h.hB; omega⟩
  · by_cases hcj : c = j
    · subst hcj; rw [updF_j]; exact hvB
    · rw [updF_o _ _ hcj]; exact h.neB c hc
  · by_cases hcj : c = j
    · subst hcj
      rw [updF_j] at hb
      rw [updF_o _ _ (Ne.symm hcd)]
      rcases ho with e | ⟨b', e, hb'⟩
      · rw [e] at hb; exact h.sep c d hc hd hcd b hb
      · rw [e] at hb; cases hb
        intro e2
        have := (OwnS.own_lt (h.own d hd) _ e2).2
        omega
    · rw [updF_o _ _ hcj] at hb
      by_cases hdj : d = j
      · subst hdj
        rw [updF_j]
        rcases ho with e | ⟨b', e, hb'⟩
        · rw [e]; exact h.sep c d hc hd hcd b hb
        · rw [e]; intro e2; cases e2
          have := (OwnS.own_lt (h.own c hc) _ hb).2
          omega
      · rw [updF_o _ _ hdj]; exact h.sep c d hc hd hcd b hb
theorem TurnW.start {w : World} {B m base : Nat} (h : Row w B 29 (List.replicate m (.slice none 0 0))) (hB : base ≤ B) : TurnW w B m base (fun _ => .slice none 0 0) (fun _ => []) := by
  refine ⟨?_, fun c hc => OwnS.nil fun b hb => Nat.lt_of_lt_of_le hb (Nat.le_trans hB (Nat.le_of_lt h.lt)), fun c hc e => (by cases e), fun c d _ _ _ b e => (by cases e), hB⟩
  rw [show (List.range m).map (fun _ => Value.slice none 0 0) = List.replicate m (.slice none 0 0) by rw [List.map_const', List.length_range]]
  exact h
theorem all2_range {α β : Type} {R : α → β → Prop} {f : Nat → α} {g : Nat → β} {m : Nat} (h : ∀ c, c < m → R (f c) (g c)) : All2 R ((List.range m).map f) ((List.range m).map g) := by
  refine ⟨by simp, fun j x y hx hy => ?_⟩
  rw [List.getElem?_map] at hx hy
  cases hr : (List.range m)[j]? with
  | none => rw [hr] at hx; cases hx
  | some c =>
    rw [hr] at hx hy
    cases hx
    cases hy
    exact h c (by have := List.mem_range.1 (List.mem_of_getElem? hr); exact this)
theorem TurnW.isM {w : World} {B m base : Nat} {sl : Nat → Value} {cols : Nat → List Raw} (h : TurnW w B m base sl cols) (hm : m ≤ 1000) : IsM w (Old w) (.slice (some ⟨B, 0, none⟩) m m) ((List.range m).map cols) := by
  have hw : Wid 1 ((List.range m).map sl) := fun u hu => by
    obtain ⟨c, hc, rfl⟩ := List.mem_map.1 hu
    obtain ⟨A, k, e⟩ := (h.own c (List.mem_range.1 hc)).slice
    rw [e]; rfl
  have hce : cellsOf ((List.range m).map sl) = (List.range m).map sl := by
    have : ∀ l : List Nat, (∀ c ∈ l, c < m) → cellsOf (l.map sl) = l.map sl := fun l => by
      induction l with
      | nil => intro _; rfl
      | cons c l ih =>
        intro hl
        obtain ⟨A, k, e⟩ := (h.own c (hl c (by simp))).slice
        have e2 := ih fun d hd => hl d (by simp [hd])
        unfold cellsOf at e2 ⊢
        rw [List.map_cons, List.flatMap_cons, e2, e]
        rfl
    exact this _ fun c hc => List.mem_range.1 hc
  have hl : ((List.range m).map cols).length = m := by simp
  have h1 := isS_row (n := 1) (R := IsV) (S := Old w) (es := (List.range m).map sl) (l := (List.range m).map cols) (by rw [hce]; exact h.row) h.row.lt hw (all2_range fun c hc => (OwnS.isS IsR.stb (T := Old w) (h.own c hc) (fun b hb => Nat.lt_of_lt_of_le hb (Nat.le_trans h.hB (Nat.le_of_lt h.row.lt))) (fun b _ hb => hb) : IsV w (Old w) (sl c) (cols c))) (by simp; omega)
  rw [hl] at h1
  exact h1
theorem vecZ : ElT Tryd.prog 27 29 (.slice none 0 0) 24 :=
  ⟨Tryd.underlying27, by obtain ⟨i, h1, h2, h3, h4⟩ := info_parts vec_info; exact ⟨i, h1, h2, h3, h4⟩, rfl⟩
def blkT (vj : Value) : Nat → Option Nat := fun k => match k with | 8 => vj.ownBlock | _ => none
theorem open37 {l : List Value} (h : l.length = 37) : ∃ fs : Nat → Value, l = [fs 0, fs 1, fs 2, fs 3, fs 4, fs 5, fs 6, fs 7, fs 8, fs 9, fs 10, fs 11, fs 12, fs 13, fs 14, fs 15, fs 16, fs 17, fs 18, fs 19, fs 20, fs 21, fs 22, fs 23, fs 24, fs 25, fs 26, fs 27, fs 28, fs 29, fs 30, fs 31, fs 32, fs 33, fs 34, fs 35, fs 36] := by
  refine ⟨fun i => l.getD i undef, ?_⟩
  have e : l = (List.range 37).map (fun i => l.getD i undef) := by
    apply List.ext_getElem
    · simp [h]
    · intro i h1 h2
      simp [List.getD_eq_getElem?_getD, List.getElem?_eq_getElem h1]
  exact e.trans rfl
def PhiTu (B j m n0 base : Nat) (S0 : Nat → Prop) (vj : Value) (lj : List Raw) (rx : Raw) (x0 : Bool) (X1 X3 : Option Addr) (x1 X2 x2 X4 : Nat) (i : Nat) (v : Value) (w : World) (X : Nat → Option Value) : Prop :=
  match i with
  | 0 => v = .slice (some ⟨B, 0, none⟩) m m
  | 1 => v = .int .i64 (j : Int)
  | 2 => v = .slice (some ⟨B, 0, none⟩) m m
  | 3 => v = .int .i64 (j : Int)
  | 4 => v = .pointer (some ⟨B, j, none⟩)
  | 5 => v = vj
  | 6 => v = .agg #[.bool x0, .slice X1 x1 X2, .slice X3 x2 X4]
  | 7 => NewRow w n0 50 [.bool x0, .slice X1 x1 X2, .slice X3 x2 X4] v
  | 8 => OwnS 3 50 IsR w base S0 v (lj ++ [rx]) ∧ (v.ownBlock = vj.ownBlock ∨ ∃ b, v.ownBlock = some b ∧ n0 ≤ b)
  | 9 => v = .pointer (some ⟨B, j, none⟩)
  | _ => True
theorem phiTu_st {B j m n0 base : Nat} {S0 : Nat → Prop} {vj : Value} {lj : List Raw} {rx : Raw} {x0 : Bool} {X1 X3 : Option Addr} {x1 X2 x2 X4 : Nat} (hb : ∀ k b, blkT vj k = some b → b < n0) : ∀ i k v (w w' : World) X u, i ≠ k → X k = none → PhiTu B j m n0 base S0 vj lj rx x0 X1 X3 x1 X2 x2 X4 i v w X → w.grownBy w' (blkT vj k) → PhiTu B j m n0 base S0 vj lj rx x0 X1 X3 x1 X2 x2 X4 i v w' (updX X k u) := fun i k v w w' X u hik hX h hE => match i, hik, h with
  | 0, hik, h => h
  | 1, hik, h => h
  | 2, hik, h => h
  | 3, hik, h => h
  | 4, hik, h => h
  | 5, hik, h => h
  | 6, hik, h => h
  | 7, hik, h => h.grown hE fun b e => hb k b e
  | 8, hik, h => ⟨h.1.grown IsR.stb hE fun b e => (by have hk8 : k ≠ 8 := fun e' => hik e'.symm; match k, hk8, e with | 0, _, e | 1, _, e | 2, _, e | 3, _, e | 4, _, e | 5, _, e | 6, _, e | 7, _, e => cases e | 8, h8, _ => exact absurd rfl h8 | _ + 9, _, e => cases e), h.2⟩
  | 9, hik, h => h
  | _ + 10, _, _ => trivial
set_option maxRecDepth 100000 in
set_option maxHeartbeats 4000000 in
theorem turned_l {w : World} {v : Value} {M : List (List Rat)} {n m : Nat} (h : IsM w (Old w) v (rawM M)) (hn : M.length = n) (hrow : ∀ r ∈ M, r.length = m) (hn1 : 1 ≤ n) (hn9 : n ≤ 40) (hm9 : m ≤ 40) :
    Calls Tryd.prog 85 #[v] w fun e w' => (∃ v', e = .returned v' ∧ IsM w' (Old w') v' (rawM (turnQ M m))) ∧ Below w.heap.size w w' := by
  have HM := Lib.hid h
  have Hn := Lib.hid hn
  have Hrow := Lib.hid hrow
  have hcol : Hid (((rawM M).headD []).length = m) := by
    rw [Hid]
    cases M with
    | nil => simp at hn; omega
    | cons a t => simp only [rawM, List.map_cons, List.headD_cons]; rw [zbr]; exact hrow a (by simp)
  obtain ⟨A, cA, rfl, _⟩ := zck h
  have eln : (rawM M).length = n := by rw [zch]; exact hn
  rw [eln] at HM
  rw [eln]
  clear h hn hrow eln
  obtain ⟨base, hbase⟩ : ∃ b, b = w.heap.size := ⟨_, rfl⟩
  have Hbase := Lib.hid hbase
  have HOld : Hid (∀ b, Old w b → b < base) := by rw [Hid, hbase]; exact fun b hb => hb
  clear hbase
  go_enter Tryd.func85, Tryd.ntmps85
  go_wp2_with fail
  refine (zed HM.out).mono ?_
  rw [hcol.out]
  rintro e w1 ⟨rfl, rfl⟩
  go_wp2_with (at_make; refine wp_makeZ vecZ rfl rfl _ _ rfl m rfl rfl rfl rfl (by omega) ?_; intro w2 hr2 hb2 hz2)
  obtain ⟨B, hB⟩ : ∃ b, b = w.heap.size := ⟨_, rfl⟩
  rw [← hB] at hr2 ⊢
  have HB2 := Lib.hid hb2
  have HBB := Lib.hid hB
  have HT2 := Lib.hid (TurnW.start (base := base) hr2 (by rw [hB, Hbase.out]; exact Nat.le_refl _))
  clear hr2 hb2 hz2 hB
  go_loopw [13, 5, 6, 7] (fun ii _ _ _ wr => ∃ (i : Nat) (sl : Nat → Value), i ≤ n ∧ ii = .int .i64 (i : Int) ∧ Below w.heap.size w wr ∧ Hid (TurnW wr B m base sl fun c => rawV (colT (M.take i) c))) (fun ii _ _ _ _ => n - (intOf ii).toNat)
  case atStart => exact ⟨0, _, Nat.zero_le _, rfl, HB2.out, HT2.out⟩
  case round =>
    obtain ⟨i, sl, hi, rfl, hbw, hT⟩ := hrel
    have Hbw := Lib.hid hbw
    have HT := Lib.hid hT.out
    clear hT
    rcases Nat.lt_or_ge i n with hlt | hge
    · obtain ⟨r, hr, hrr⟩ := zem (m := M) (j := i) (by rw [Hn.out]; exact hlt)
      obtain ⟨b1, o1, R, cR, rfl, hSb1, helr, c0⟩ := zcy HM.out hrr
      have elr : (rawV r).length = m := by rw [zbr]; exact Hrow.out r (List.mem_of_getElem? hr)
      rw [elr] at c0 helr
      replace c0 := hbw.cell (p := ⟨b1, o1 + i, none⟩) hSb1 |>.trans c0
      have HV := Lib.hid helr
      have HR := Lib.hid hr
      have Hlr : Hid (r.length = m) := Hrow.out r (List.mem_of_getElem? hr)
      have hk0 : (0 : Int) ≤ (i : Int) := by omega
      have hk1 : (i : Int) < (n : Int) := by omega
      have Hlt := Lib.hid hlt
      clear hr hrr helr elr hbw hSb1
      go_wp2_with fail
      clear c0
      go_loopw [19, 6, 7] (fun jj _ _ wr => ∃ (j : Nat) (sl : Nat → Value) (cols : Nat → List Raw), j ≤ m ∧ jj = .int .i64 (j : Int) ∧ Below w.heap.size w wr ∧ Hid (TurnW wr B m base sl cols ∧ ∀ c, cols c = rawV (if c < j then colT (M.take (i + 1)) c else colT (M.take i) c))) (fun jj _ _ _ => m - (intOf jj).toNat)
      case atStart => exact ⟨0, sl, fun c => rawV (colT (M.take i) c), Nat.zero_le _, rfl, Hbw.out, HT.out, fun c => by rw [if_neg (Nat.not_lt_zero _)]⟩
      case round =>
        clear HT
        obtain ⟨j, sl, cols, hj, rfl, hbj, hTj⟩ := hrel
        have Hbj := Lib.hid hbj
        have HTj := Lib.hid hTj.out.1
        have Hcj := Lib.hid hTj.out.2
        clear hTj
        rcases Nat.lt_or_ge j m with hjm | hjm
        · obtain ⟨x, hx, hrx⟩ := zdb (l := r) (j := j) (by rw [Hlr.out]; exact hjm)
          obtain ⟨b2, o2, X1, X2, X3, X4, rfl, hSb2, helx, d0, d1, d2⟩ := zda HV.out hrx
          obtain ⟨x0, hx0⟩ : ∃ s, s = (raw x).neg := ⟨_, rfl⟩
          obtain ⟨x1, hx1⟩ : ∃ s, s = (raw x).num.length := ⟨_, rfl⟩
          obtain ⟨x2, hx2⟩ : ∃ s, s = (raw x).den.length := ⟨_, rfl⟩
          rw [← hx0] at d0
          rw [← hx1] at d1
          rw [← hx2] at d2
          rw [← hx0, ← hx1, ← hx2] at helx
          replace d0 := hbj.cell (p := ⟨b2, o2 + j * 3, none⟩) hSb2 |>.trans d0
          replace d1 := hbj.cell (p := ⟨b2, o2 + j * 3 + 1, none⟩) hSb2 |>.trans d1
          replace d2 := hbj.cell (p := ⟨b2, o2 + j * 3 + 2, none⟩) hSb2 |>.trans d2
          have Qx0 := Lib.hid helx
          have Hx := Lib.hid hx
          have cr := zbn
          have hj0 : (0 : Int) ≤ (j : Int) := by omega
          have hj1 : (j : Int) < (m : Int) := by omega
          have Hjm := Lib.hid hjm
          obtain ⟨wx, hwx⟩ : ∃ x, x = wr.alloc (.cells #[.bool x0, .slice X1 x1 X2, .slice X3 x2 X4] 50) := ⟨_, rfl⟩
          have hbx : Below wr.heap.size wr wx := by rw [hwx]; exact zal _ _
          have hrx : Row wx wr.heap.size 50 [.bool x0, .slice X1 x1 X2, .slice X3 x2 X4] := by rw [hwx]; exact heap_alloc_new _ _
          clear hx helx hx0 hx1 hx2 hSb2 hbj
          go_wp2_with fail
          rw [← hwx]
          obtain ⟨wd, hwd⟩ : ∃ x, x = wx.drew := ⟨_, rfl⟩
          have hbd : Below wr.heap.size wr wd := by rw [hwd]; exact zaa hbx (zac _)
          have BD := Lib.hid hbd
          have Hwd := Lib.hid hwd
          have HTd := Lib.hid (HTj.out.grown (zbm hbd))
          have RX : Hid (Row wd wr.heap.size 50 [.bool x0, .slice X1 x1 X2, .slice X3 x2 X4]) := by rw [Hid, hwd]; exact hrx
          have Bwd := Lib.hid (zaa Hbj.out hbd)
          have HBd : Hid (base ≤ wd.heap.size ∧ ∀ b, b < base → some b ≠ (sl j).ownBlock) := ⟨by rw [Hbase.out]; exact Bwd.out.size, fun b hb e => by have := (OwnS.own_lt (HTd.out.own j Hjm.out) b e.symm).1; omega⟩
          have Qx : Hid (IsR wd (fun b => b < base) (.agg #[.bool x0, .slice X1 x1 X2, .slice X3 x2 X4]) (raw x)) := IsR.stb.to Qx0.out fun b hb => ⟨HOld.out b hb, fun o => Bwd.out.cell (p := ⟨b, o, none⟩) hb⟩
          have HLj : Hid ((cols j).length ≤ 100) := by
            rw [Hid, Hcj.out, if_neg (Nat.lt_irrefl _), zbr, colT_len]
            have := List.length_take_le i M
            have := Hlt.out
            omega
          have keepj : ∀ W : World, wd.grownBy W (sl j).ownBlock → W.cell? ⟨B, j, none⟩ = some (sl j) := fun W hJ =>
            ((HTd.out.row.grownN hJ fun b e e' => HTd.out.neB j Hjm.out (by rw [e, e'])).cell j).trans (by simp [Hjm.out])
          have keepx : ∀ W : World, wd.grownBy W (sl j).ownBlock → W.cell? ⟨wr.heap.size, 0, none⟩ = some (.bool x0) ∧ W.cell? ⟨wr.heap.size, 1, none⟩ = some (.slice X1 x1 X2) ∧ W.cell? ⟨wr.heap.size, 2, none⟩ = some (.slice X3 x2 X4) := fun W hJ =>
            zad (RX.out.grownN hJ fun b e e' => by have := (OwnS.own_lt (HTj.out.own j Hjm.out) b e).2; omega)
          clear hwx hbx hrx hwd hbd d0 d1 d2
          refine zeb fun ops hops => ?_
          have oq0 := zar (j := 0) hops rfl
          have oq1 := zar (j := 1) hops rfl
          have oq2 := zar (j := 2) hops rfl
          have oq3 := zar (j := 3) hops rfl
          have oq4 := zar (j := 4) hops rfl
          have oq5 := zar (j := 5) hops rfl
          have oq6 := zar (j := 6) hops rfl
          have oq7 := zar (j := 7) hops rfl
          have oq8 := zar (j := 8) hops rfl
          have oq9 := zar (j := 9) hops rfl
          have oq10 := zar (j := 10) hops rfl
          have fr := fun t h => zdo (n := 10) hops t h
          refine zdp 10 (PhiTu B j m wd.heap.size base (fun b => b < base) (sl j) (cols j) (raw x) x0 X1 X3 x1 X2 x2 X4) (fun i W => i = 8 → OwnS 3 50 IsR W base (fun b => b < base) (sl j) (cols j)) (fun W => wd.grownBy W (sl j).ownBlock) (fun k w w' => w.grownBy w' ((fun k => match k with | 8 => (sl j).ownBlock | _ => none) k)) (by kernel_rfl) ?hJ0 ?hP0 ?hPs ?hst (by rw [hops]; kernel_rfl) (by rw [hops]; kernel_rfl) ?step ?fin
          case hJ0 => rw [← Hwd.out]; exact zaf _ _
          case hP0 => exact fun i _ => by rw [← Hwd.out]; exact HTd.out.own j Hjm.out
          case hPs =>
            intro i k wa wb hik h hJ hE hi8
            refine (h hi8).grown IsR.stb hE fun b e => ?_
            have hk8 : k ≠ 8 := fun e' => hik (hi8.trans e'.symm)
            replace e : blkT (sl j) k = some b := e
            match k, hk8, e with
            | 0, _, e | 1, _, e | 2, _, e | 3, _, e | 4, _, e | 5, _, e | 6, _, e | 7, _, e => cases e
            | 8, h8, _ => exact absurd rfl h8
            | _ + 9, _, e => cases e
          case hst => exact fun i k v wa wb X u hik hX h hJ hE => phiTu_st (vj := sl j) (fun k b e => by
            match k, e with
            | 0, e | 1, e | 2, e | 3, e | 4, e | 5, e | 6, e | 7, e => cases e
            | 8, e => exact (OwnS.own_lt (HTd.out.own j Hjm.out) b e).2
            | _ + 9, e => cases e) i k v wa wb X u hik hX h hE
          case step =>
            intro i o hin hi a W X hsz hdf hJ hP hXi hfree hdep
            obtain ⟨T, df⟩ := a
            replace hsz : T.size = 37 := hsz
            obtain rfl : df = [] := hdf
            match i, hin, hi, hXi, hP with
            | 0, _, hi, hXi, hP =>
              obtain rfl := Option.some.inj (oq0.symm.trans hi)
              have e3 : T[3]? = some (.slice (some ⟨B, 0, none⟩) m m) := hfree 3 (fr 3 (by kernel_rfl))
              refine zae rfl ?_
              refine zap (E := fun w' => W.grownBy w' (none)) (Φ := PhiTu B j m wd.heap.size base (fun b => b < base) (sl j) (cols j) (raw x) x0 X1 X3 x1 X2 x2 X4 0) fun K hK => ?_
              clear hdep hfree hsz hops fr oq0 oq1 oq2 oq3 oq4 oq5 oq6 oq7 oq8 oq9 oq10
              go_simp
              exact hK (.slice (some ⟨B, 0, none⟩) m m) _ (zaf _ _) hJ rfl
            | 1, _, hi, hXi, hP =>
              obtain rfl := Option.some.inj (oq1.symm.trans hi)
              have e6 : T[6]? = some (.int .i64 (j : Int)) := hfree 6 (fr 6 (by kernel_rfl))
              refine zae rfl ?_
              refine zap (E := fun w' => W.grownBy w' (none)) (Φ := PhiTu B j m wd.heap.size base (fun b => b < base) (sl j) (cols j) (raw x) x0 X1 X3 x1 X2 x2 X4 1) fun K hK => ?_
              clear hdep hfree hsz hops fr oq0 oq1 oq2 oq3 oq4 oq5 oq6 oq7 oq8 oq9 oq10
              go_simp
              exact hK (.int .i64 (j : Int)) _ (zaf _ _) hJ rfl
            | 2, _, hi, hXi, hP =>
              obtain rfl := Option.some.inj (oq2.symm.trans hi)
              have e3 : T[3]? = some (.slice (some ⟨B, 0, none⟩) m m) := hfree 3 (fr 3 (by kernel_rfl))
              refine zae rfl ?_
              refine zap (E := fun w' => W.grownBy w' (none)) (Φ := PhiTu B j m wd.heap.size base (fun b => b < base) (sl j) (cols j) (raw x) x0 X1 X3 x1 X2 x2 X4 2) fun K hK => ?_
              clear hdep hfree hsz hops fr oq0 oq1 oq2 oq3 oq4 oq5 oq6 oq7 oq8 oq9 oq10
              go_simp
              exact hK (.slice (some ⟨B, 0, none⟩) m m) _ (zaf _ _) hJ rfl
            | 3, _, hi, hXi, hP =>
              obtain rfl := Option.some.inj (oq3.symm.trans hi)
              have e6 : T[6]? = some (.int .i64 (j : Int)) := hfree 6 (fr 6 (by kernel_rfl))
              refine zae rfl ?_
              refine zap (E := fun w' => W.grownBy w' (none)) (Φ := PhiTu B j m wd.heap.size base (fun b => b < base) (sl j) (cols j) (raw x) x0 X1 X3 x1 X2 x2 X4 3) fun K hK => ?_
              clear hdep hfree hsz hops fr oq0 oq1 oq2 oq3 oq4 oq5 oq6 oq7 oq8 oq9 oq10
              go_simp
              exact hK (.int .i64 (j : Int)) _ (zaf _ _) hJ rfl
            | 4, _, hi, hXi, hP =>
              obtain rfl := Option.some.inj (oq4.symm.trans hi)
              have d26 : (T.getD 26 undef) = .slice (some ⟨B, 0, none⟩) m m := (hdep 2 _ (odt (by kernel_rfl)) oq2).2
              have e26 := zah (by omega) d26
              clear d26
              have d27 : (T.getD 27 undef) = .int .i64 (j : Int) := (hdep 3 _ (odt (by kernel_rfl)) oq3).2
              have e27 := zah (by omega) d27
              clear d27
              refine zae rfl ?_
              refine zap (E := fun w' => W.grownBy w' (none)) (Φ := PhiTu B j m wd.heap.size base (fun b => b < base) (sl j) (cols j) (raw x) x0 X1 X3 x1 X2 x2 X4 4) fun K hK => ?_
              clear hdep hfree hsz hops fr oq0 oq1 oq2 oq3 oq4 oq5 oq6 oq7 oq8 oq9 oq10
              go_simp
              exact hK (.pointer (some ⟨B, j, none⟩)) _ (zaf _ _) hJ rfl
            | 5, _, hi, hXi, hP =>
              obtain rfl := Option.some.inj (oq5.symm.trans hi)
              have d28 : (T.getD 28 undef) = .pointer (some ⟨B, j, none⟩) := (hdep 4 _ (odt (by kernel_rfl)) oq4).2
              have e28 := zah (by omega) d28
              clear d28
              refine zae rfl ?_
              refine zap (E := fun w' => W.grownBy w' (none)) (Φ := PhiTu B j m wd.heap.size base (fun b => b < base) (sl j) (cols j) (raw x) x0 X1 X3 x1 X2 x2 X4 5) fun K hK => ?_
              clear hdep hfree hsz hops fr oq0 oq1 oq2 oq3 oq4 oq5 oq6 oq7 oq8 oq9 oq10
              have h0 := keepj W hJ
              go_simp
              exact hK (sl j) _ (zaf _ _) hJ rfl
            | 6, _, hi, hXi, hP =>
              obtain rfl := Option.some.inj (oq6.symm.trans hi)
              have e7 : T[7]? = some (.pointer (some ⟨wr.heap.size, 0, none⟩)) := hfree 7 (fr 7 (by kernel_rfl))
              refine zae rfl ?_
              refine zap (E := fun w' => W.grownBy w' (none)) (Φ := PhiTu B j m wd.heap.size base (fun b => b < base) (sl j) (cols j) (raw x) x0 X1 X3 x1 X2 x2 X4 6) fun K hK => ?_
              clear hdep hfree hsz hops fr oq0 oq1 oq2 oq3 oq4 oq5 oq6 oq7 oq8 oq9 oq10
              obtain ⟨h0, h1, h2⟩ := keepx W hJ
              go_simp
              exact hK (.agg #[.bool x0, .slice X1 x1 X2, .slice X3 x2 X4]) _ (zaf _ _) hJ rfl
            | 7, _, hi, hXi, hP =>
              obtain rfl := Option.some.inj (oq7.symm.trans hi)
              have d30 : (T.getD 30 undef) = .agg #[.bool x0, .slice X1 x1 X2, .slice X3 x2 X4] := (hdep 6 _ (odt (by kernel_rfl)) oq6).2
              have e30 := zah (by omega) d30
              clear d30
              refine zae rfl ?_
              refine zap (E := fun w' => W.grownBy w' (none)) (Φ := PhiTu B j m wd.heap.size base (fun b => b < base) (sl j) (cols j) (raw x) x0 X1 X3 x1 X2 x2 X4 7) fun K hK => ?_
              clear hdep hfree hsz hops fr oq0 oq1 oq2 oq3 oq4 oq5 oq6 oq7 oq8 oq9 oq10
              go_simp
              exact hK (.slice (some ⟨W.heap.size, 0, none⟩) 1 1) _ (zcm _ _ _) (zbj hJ (zcm _ _ _)) ⟨W.heap.size, rfl, hJ.size, heap_alloc_new _ _⟩
            | 8, _, hi, hXi, hP =>
              obtain rfl := Option.some.inj (oq8.symm.trans hi)
              have d29 : (T.getD 29 undef) = sl j := (hdep 5 _ (odt (by kernel_rfl)) oq5).2
              have e29 := zah (by omega) d29
              clear d29
              have d31 : NewRow W wd.heap.size 50 [.bool x0, .slice X1 x1 X2, .slice X3 x2 X4] (T.getD 31 undef) := (hdep 7 _ (odt (by kernel_rfl)) oq7).2
              obtain ⟨v31, e31, g31⟩ := zbs (T := T) (t := 31) (by omega)
              rw [g31] at d31
              clear g31
              refine zae rfl ?_
              refine zap (E := fun w' => W.grownBy w' ((sl j).ownBlock)) (Φ := PhiTu B j m wd.heap.size base (fun b => b < base) (sl j) (cols j) (raw x) x0 X1 X3 x1 X2 x2 X4 8) fun K hK => ?_
              clear hdep hfree hsz hops fr oq0 oq1 oq2 oq3 oq4 oq5 oq6 oq7 oq8 oq9 oq10
              obtain ⟨h31, rfl, hh1, hh2⟩ := d31
              refine step_appG elR (.tmp 29) (.tmp 31) rfl IsR.stb (zdm e29) (zdm e31) (ev := .agg #[.bool x0, .slice X1 x1 X2, .slice X3 x2 X4]) (y := raw x) hh2 (hP rfl) (IsR.stb.to Qx.out (zfb hJ fun b hb => ⟨Nat.lt_of_lt_of_le hb HBd.out.1, HBd.out.2 b hb⟩)) rfl (by intro u hu; simp [Value.cells] at hu; rcases hu with rfl | rfl | rfl <;> rfl) (by have := HLj.out; omega) (Nat.le_trans HBd.out.1 hJ.size) fun v' w' k1 k2 k3 => hK v' w' k2 (zbj hJ k2) ⟨k1, k3.imp id fun h => ⟨_, h, hJ.size⟩⟩
            | 9, _, hi, hXi, hP =>
              obtain rfl := Option.some.inj (oq9.symm.trans hi)
              have d24 : (T.getD 24 undef) = .slice (some ⟨B, 0, none⟩) m m := (hdep 0 _ (odt (by kernel_rfl)) oq0).2
              have e24 := zah (by omega) d24
              clear d24
              have d25 : (T.getD 25 undef) = .int .i64 (j : Int) := (hdep 1 _ (odt (by kernel_rfl)) oq1).2
              have e25 := zah (by omega) d25
              clear d25
              refine zae rfl ?_
              refine zap (E := fun w' => W.grownBy w' (none)) (Φ := PhiTu B j m wd.heap.size base (fun b => b < base) (sl j) (cols j) (raw x) x0 X1 X3 x1 X2 x2 X4 9) fun K hK => ?_
              clear hdep hfree hsz hops fr oq0 oq1 oq2 oq3 oq4 oq5 oq6 oq7 oq8 oq9 oq10
              go_simp
              exact hK (.pointer (some ⟨B, j, none⟩)) _ (zaf _ _) hJ rfl
            | i + 10, hin, hi, hXi, hP => exact absurd hin (by omega)
          case fin =>
            intro a W X hsz hdf hJ hfree hall
            obtain ⟨⟨l⟩, df⟩ := a
            replace hsz : l.length = 37 := hsz
            obtain ⟨fs, rfl⟩ := open37 hsz
            obtain rfl : df = [] := hdf
            have bs0 : fs 0 = .slice (some ⟨b1, o1, none⟩) n cA := Option.some.inj (hfree 0 (fr 0 (by kernel_rfl)))
            have bs1 : fs 1 = undef := Option.some.inj (hfree 1 (fr 1 (by kernel_rfl)))
            have bs2 : fs 2 = .slice none 0 0 := Option.some.inj (hfree 2 (fr 2 (by kernel_rfl)))
            have bs3 : fs 3 = .slice (some ⟨B, 0, none⟩) m m := Option.some.inj (hfree 3 (fr 3 (by kernel_rfl)))
            have bs4 : fs 4 = undef := Option.some.inj (hfree 4 (fr 4 (by kernel_rfl)))
            have bs5 : fs 5 = .slice (some ⟨b2, o2, none⟩) m cR := Option.some.inj (hfree 5 (fr 5 (by kernel_rfl)))
            have bs6 : fs 6 = .int .i64 (j : Int) := Option.some.inj (hfree 6 (fr 6 (by kernel_rfl)))
            have bs7 : fs 7 = .pointer (some ⟨wr.heap.size, 0, none⟩) := Option.some.inj (hfree 7 (fr 7 (by kernel_rfl)))
            have bs8 : fs 8 = .slice (some ⟨b1, o1, none⟩) n cA := Option.some.inj (hfree 8 (fr 8 (by kernel_rfl)))
            have bs9 : fs 9 = .int .i64 (m : Int) := Option.some.inj (hfree 9 (fr 9 (by kernel_rfl)))
            have bs10 : fs 10 = .slice (some ⟨B, 0, none⟩) m m := Option.some.inj (hfree 10 (fr 10 (by kernel_rfl)))
            have bs11 : fs 11 = .slice (some ⟨b1, o1, none⟩) n cA := Option.some.inj (hfree 11 (fr 11 (by kernel_rfl)))
            have bs12 : fs 12 = .int .i64 (n : Int) := Option.some.inj (hfree 12 (fr 12 (by kernel_rfl)))
            have bs13 : fs 13 = .int .i64 (i : Int) := Option.some.inj (hfree 13 (fr 13 (by kernel_rfl)))
            have bs14 : fs 14 = .bool true := Option.some.inj (hfree 14 (fr 14 (by kernel_rfl)))
            have bs15 : fs 15 = .pointer (some ⟨b1, (o1 + i), none⟩) := Option.some.inj (hfree 15 (fr 15 (by kernel_rfl)))
            have bs16 : fs 16 = .slice (some ⟨b2, o2, none⟩) m cR := Option.some.inj (hfree 16 (fr 16 (by kernel_rfl)))
            have bs17 : fs 17 = .slice (some ⟨b2, o2, none⟩) m cR := Option.some.inj (hfree 17 (fr 17 (by kernel_rfl)))
            have bs18 : fs 18 = .int .i64 (m : Int) := Option.some.inj (hfree 18 (fr 18 (by kernel_rfl)))
            have bs19 : fs 19 = .int .i64 (j : Int) := Option.some.inj (hfree 19 (fr 19 (by kernel_rfl)))
            have bs35 : fs 35 = u35 := Option.some.inj (hfree 35 (fr 35 (by kernel_rfl)))
            have bs36 : fs 36 = undef := Option.some.inj (hfree 36 (fr 36 (by kernel_rfl)))
            have x32 : X 8 = some (fs 32) := (hall 8 _ (by omega) oq8).1
            have q32 : OwnS 3 50 IsR W base (fun b => b < base) (fs 32) (cols j ++ [raw x]) ∧ ((fs 32).ownBlock = (sl j).ownBlock ∨ ∃ b, (fs 32).ownBlock = some b ∧ wd.heap.size ≤ b) := (hall 8 _ (by omega) oq8).2
            have x33 : X 9 = some (fs 33) := (hall 9 _ (by omega) oq9).1
            have q33 : (fs 33) = .pointer (some ⟨B, j, none⟩) := (hall 9 _ (by omega) oq9).2
            clear x33
            clear hall hfree hsz
            rw [hops]
            clear hops fr oq0 oq1 oq2 oq3 oq4 oq5 oq6 oq7 oq8 oq9 oq10
            rw [bs0, bs1, bs2, bs3, bs4, bs5, bs6, bs7, bs8, bs9, bs10, bs11, bs12, bs13, bs14, bs15, bs16, bs17, bs18, bs19, bs35, bs36, q33]
            clear bs0 bs1 bs2 bs3 bs4 bs5 bs6 bs7 bs8 bs9 bs10 bs11 bs12 bs13 bs14 bs15 bs16 bs17 bs18 bs19 bs35 bs36 q33
            obtain ⟨t32, ht32⟩ : ∃ t, t = fs 32 := ⟨_, rfl⟩
            rw [← ht32] at q32 x32 ⊢
            clear ht32
            have h0 := keepj W hJ
            obtain ⟨P32, k32, e32⟩ := q32.1.slice
            rw [List.length_append] at e32
            subst e32
            have Q32 := Lib.hid q32
            have HJ := Lib.hid hJ
            have hbz := HTd.out.row
            have hfz : W.frozen? ⟨B, j, none⟩ = false := (HTd.out.row.grownN hJ fun b e e' => HTd.out.neB j Hjm.out (by rw [e, e'])).frozen j
            clear q32 x32
            show wpList _ _ _ [_] _ _
            go_wp2_with fail
            clear h0
            go_roundw
            case rel =>
              have hput := HTd.out.put Hjm.out HJ.out Q32.out.1 Q32.out.2
              refine ⟨j + 1, _, _, Hjm.out, by go_num, ?_, hput, fun c => ?_⟩
              · exact ((Bwd.out.grown HJ.out Bwd.out.size fun b e => by have := (OwnS.own_lt (HTd.out.own j Hjm.out) b e).1; rw [Hbase.out] at this; exact this).setCell (p := ⟨B, j, none⟩) (by show w.heap.size ≤ B; rw [HBB.out]; exact Nat.le_refl _) _)
              · by_cases hcj : c = j
                · subst hcj
                  rw [updF_j, Hcj.out, if_neg (Nat.lt_irrefl _), if_pos (Nat.lt_succ_self _), colT_snoc HR.out, zeu, List.getD_eq_getElem?_getD, Hx.out]
                  rfl
                · rw [updF_o _ _ hcj, Hcj.out]
                  by_cases hc2 : c < j
                  · rw [if_pos hc2, if_pos (by omega)]
                  · rw [if_neg hc2, if_neg (by omega)]
            case measure => have := Hjm.out; simp [intOf]; omega
        · obtain rfl : j = m := by omega
          clear hbj
          go_wp2_with fail
          go_roundw
          case rel => exact ⟨i + 1, sl, Hlt.out, by go_num, Hbj.out, HTj.out.cols fun c hc => by rw [Hcj.out, if_pos hc]⟩
          case measure => have := Hlt.out; simp [intOf]; omega
    · obtain rfl : i = n := by omega
      have e : M.take i = M := List.take_of_length_le (by rw [Hn.out]; exact Nat.le_refl _)
      rw [e] at HT
      clear hbw e
      go_wp2_with fail
      go_ret
      have hM := HT.out.isM (by omega)
      refine ⟨⟨_, rfl, ?_⟩, Hbw.out⟩
      have e : rawM (turnQ M m) = (List.range m).map fun c => rawV (colT M c) := by rw [rawM, turnQ, List.map_map]; rfl
      rw [e]
      exact hM
set_option maxRecDepth 100000 in
set_option maxHeartbeats 4000000 in
theorem clones_l {w : World} {va : Value} {a : List Rat} {M : Nat} (ha : IsV w (Old w) va (rawV a)) (hla : a.length = M) (hM : M ≤ 1000) (sa : ∀ q ∈ a, Sz q 100000) :
    Calls Tryd.prog 115 #[va] w fun e w' => (∃ v, e = .returned v ∧ IsV w' (New w.heap.size w') v (rawV a)) ∧ Below w.heap.size w w' := by
  have HA := Lib.hid ha
  have Hla := Lib.hid hla
  have Hsa := Lib.hid sa
  obtain ⟨A, cA, rfl, _⟩ := zav ha
  have ela : (rawV a).length = M := by simp [rawV, hla]
  rw [ela] at HA
  rw [ela]
  clear ha hla sa ela
  go_enter Tryd.func115, Tryd.ntmps115
  go_wp2_with (at_make; refine zci elR rfl _ _ rfl IsR M rfl rfl rfl (by omega) (base := w.heap.size) (S := fun _ => False) (Nat.le_refl _) (fun b h => h.elim) ?_; intro v3 w3 hown3 hb3 hz3)
  have HB3 := Lib.hid hb3
  have Hown3 := Lib.hid hown3
  have Hz3 : Hid (w.heap.size ≤ w3.heap.size) := hz3
  clear hb3 hown3 hz3
  go_loopw [11, 3, 5] (fun i ov _ wr => ∃ (k : Nat) (S : Nat → Prop), k ≤ M ∧ i = .int .i64 (k : Int) ∧ Below w.heap.size w wr ∧ Hid (OwnS 3 50 IsR wr w.heap.size S ov (rawV (a.take k))) ∧ Hid (∀ b, S b → w.heap.size ≤ b)) (fun i _ _ _ => M - (intOf i).toNat)
  case atStart => exact ⟨0, fun _ => False, Nat.zero_le _, rfl, HB3.out, by simpa [rawV, Hid] using Hown3.out, fun b hb => hb.elim⟩
  case round =>
    obtain ⟨k, S, hk, rfl, hbw, hrel, hS⟩ := hrel
    have Hbw := Lib.hid hbw
    have Hown := Lib.hid hrel.out
    have HS1 := Lib.hid hS.out
    have hszw := hbw.size
    clear hrel hS
    rcases Nat.lt_or_ge k M with hlt | hge
    · obtain ⟨x, hx, hrx⟩ := zdb (l := a) (j := k) (by rw [Hla.out]; exact hlt)
      obtain ⟨b1, o1, X1, X2, X3, X4, rfl, hSb1, helx, c0, c1, c2⟩ := zda HA.out hrx
      obtain ⟨x0, hx0⟩ : ∃ s, s = (raw x).neg := ⟨_, rfl⟩
      obtain ⟨x1, hx1⟩ : ∃ s, s = (raw x).num.length := ⟨_, rfl⟩
      obtain ⟨x2, hx2⟩ : ∃ s, s = (raw x).den.length := ⟨_, rfl⟩
      rw [← hx0] at c0
      rw [← hx1] at c1
      rw [← hx2] at c2
      rw [← hx0, ← hx1, ← hx2] at helx
      replace c0 := hbw.cell (p := ⟨b1, o1 + k * 3, none⟩) hSb1 |>.trans c0
      replace c1 := hbw.cell (p := ⟨b1, o1 + k * 3 + 1, none⟩) hSb1 |>.trans c1
      replace c2 := hbw.cell (p := ⟨b1, o1 + k * 3 + 2, none⟩) hSb1 |>.trans c2
      have Qx := Lib.hid (IsQ.stb.to (zey helx) (zam hbw))
      have Hend := Lib.hid hx
      have Hsx : Hid (Sz x 100000) := Hsa.out x (List.mem_of_getElem? hx)
      have cr := zbn
      have hk0 : (0 : Int) ≤ (k : Int) := by omega
      have hk1 : (k : Int) < (M : Int) := by omega
      obtain ⟨wx, hwx, hbx, rx, hzx⟩ := zbv wr #[.bool x0, .slice X1 x1 X2, .slice X3 x2 X4] 50
      have BX := Lib.hid hbx
      obtain ⟨g0, g1, g2⟩ := zad rx
      have Hhlt := Lib.hid hlt
      clear hx hrx helx hx0 hx1 hx2 hbw rx hzx hbx hSb1 hlt
      go_wp2_with fail
      clear hwx c0 c1 c2
      refine (clone_q (IsQ.stb.next Qx.out BX.out) Hsx.out).mono ?_
      rintro e w5 ⟨⟨v5, rfl, hv5⟩, hb5⟩
      obtain ⟨s5, P5, k5, O5, l5, rfl, _, _, _⟩ := zai hv5
      have BB5 := Lib.hid (zaa BX.out hb5)
      have hown5 := OwnS.step IsR.stb (T := fun b => S b ∨ (wr.heap.size ≤ b ∧ b < w5.heap.size)) Hown.out BB5.out (fun b h => .inl h) (fun b h => h)
      have hel5 := IsQ.stb.to hv5 (zay (T := fun b => S b ∨ (wr.heap.size ≤ b ∧ b < w5.heap.size)) fun b h => .inr ⟨Nat.le_trans BX.out.size h.1, h.2⟩)
      have HB5 := Lib.hid (zaa Hbw.out BB5.out)
      have hbase : w.heap.size ≤ w5.heap.size := HB5.out.size
      have hlt := Hhlt.out
      clear hb5 hv5 g0 g1 g2
      go_wp2_with (at_builtin; refine zcg elR rfl _ _ rfl IsR.stb rfl rfl rfl hown5 hel5 rfl (by intro u hu; simp [Value.cells] at hu; rcases hu with rfl | rfl | rfl <;> rfl) (by have h1 := List.length_take_le k a; rw [zbr]; omega) hbase ?_; intro v6 w6 hown6 hb6 hz6)
      go_roundw
      case rel =>
        refine ⟨k + 1, fun b => S b ∨ (wr.heap.size ≤ b ∧ b < w5.heap.size), hlt, by go_num, HB5.out.trans hb6, ?_, fun b hb => by rcases hb with hb | hb; exact HS1.out b hb; exact Nat.le_trans hszw hb.1⟩
        rw [zce Hend.out, zeu]
        exact hown6
      case measure => simp [intOf]; omega
    · obtain rfl : k = M := by omega
      have e : a.take k = a := List.take_of_length_le (by rw [Hla.out]; exact Nat.le_refl _)
      rw [e] at Hown
      have hV : IsV wr (New w.heap.size wr) _ (rawV a) := OwnS.isS IsR.stb (T := New w.heap.size wr) Hown.out (fun b hb => ⟨HS1.out b hb, by obtain ⟨_, _, _, _, h4⟩ := Hown.out; exact (h4 b hb).1⟩) (fun b h1 h2 => ⟨h1, h2⟩)
      have HVV := Lib.hid hV
      clear hV e hbw
      go_wp2_with fail
      go_ret
      exact ⟨⟨_, rfl, HVV.out⟩, Hbw.out⟩
set_option maxRecDepth 100000 in
set_option maxHeartbeats 4000000 in
theorem rows_l {w : World} {va : Value} {a : List (List Rat)} {M : Nat} (ha : IsM w (Old w) va (rawM a)) (hla : a.length = M) (hM : M ≤ 1000) (hr : ∀ r ∈ a, r.length ≤ 1000) (sa : ∀ r ∈ a, ∀ q ∈ r, Sz q 100000) :
    Calls Tryd.prog 84 #[va] w fun e w' => (∃ v, e = .returned v ∧ IsM w' (New w.heap.size w') v (rawM a)) ∧ Below w.heap.size w w' := by
  have HA := Lib.hid ha
  have Hla := Lib.hid hla
  have Hsa := Lib.hid sa
  have Hr := Lib.hid hr
  obtain ⟨A, cA, rfl, _⟩ := zck ha
  have ela : (rawM a).length = M := by simp [rawM, hla]
  rw [ela] at HA
  rw [ela]
  clear ha hla sa ela hr
  go_enter Tryd.func84, Tryd.ntmps84
  go_wp2_with (at_make; refine zci elV rfl _ _ rfl IsV M rfl rfl rfl (by omega) (base := w.heap.size) (S := fun _ => False) (Nat.le_refl _) (fun b h => h.elim) ?_; intro v3 w3 hown3 hb3 hz3)
  have HB3 := Lib.hid hb3
  have Hown3 := Lib.hid hown3
  clear hb3 hown3 hz3
  go_loopw [11, 3, 5] (fun i ov _ wr => ∃ (k : Nat) (S : Nat → Prop), k ≤ M ∧ i = .int .i64 (k : Int) ∧ Below w.heap.size w wr ∧ Hid (OwnS 1 29 IsV wr w.heap.size S ov (rawM (a.take k))) ∧ Hid (∀ b, S b → w.heap.size ≤ b)) (fun i _ _ _ => M - (intOf i).toNat)
  case atStart => exact ⟨0, fun _ => False, Nat.zero_le _, rfl, HB3.out, by simpa [rawM, Hid] using Hown3.out, fun b hb => hb.elim⟩
  case round =>
    obtain ⟨k, S, hk, rfl, hbw, hrel, hS⟩ := hrel
    have Hbw := Lib.hid hbw
    have Hown := Lib.hid hrel.out
    have HS1 := Lib.hid hS.out
    have hszw := hbw.size
    clear hrel hS
    rcases Nat.lt_or_ge k M with hlt | hge
    · obtain ⟨x, hx, hrx⟩ := zem (m := a) (j := k) (by rw [Hla.out]; exact hlt)
      obtain ⟨b1, o1, X1, X2, rfl, hSb1, helx, c0⟩ := zcy HA.out hrx
      rw [zbr] at c0 helx
      obtain ⟨lx, hlx⟩ : ∃ n, n = x.length := ⟨_, rfl⟩
      rw [← hlx] at c0 helx
      replace c0 := hbw.cell (p := ⟨b1, o1 + k, none⟩) hSb1 |>.trans c0
      have Vx := Lib.hid (IsV.stb.to helx (zam hbw))
      have Hend := Lib.hid hx
      have Hlx := Lib.hid hlx
      have Hsx : Hid (∀ q ∈ x, Sz q 100000) := Hsa.out x (List.mem_of_getElem? hx)
      have hlr := Hr.out x (List.mem_of_getElem? hx)
      have hk0 : (0 : Int) ≤ (k : Int) := by omega
      have hk1 : (k : Int) < (M : Int) := by omega
      have Hhlt := Lib.hid hlt
      clear hx hrx helx hlx hbw hSb1 hlt
      go_wp2_with fail
      refine (clones_l (M := lx) Vx.out Hlx.out.symm (by rw [Hlx.out]; exact hlr) Hsx.out).mono ?_
      rintro e w5 ⟨⟨v5, rfl, hv5⟩, hb5⟩
      obtain ⟨P5, k5, rfl, _⟩ := zav hv5
      have hown5 := OwnS.step IsV.stb (T := fun b => S b ∨ (wr.heap.size ≤ b ∧ b < w5.heap.size)) Hown.out hb5 (fun b h => .inl h) (fun b h => h)
      have hel5 := IsV.stb.to hv5 (zay (T := fun b => S b ∨ (wr.heap.size ≤ b ∧ b < w5.heap.size)) fun b h => .inr h)
      have HB5 := Lib.hid (zaa Hbw.out hb5)
      have hbase : w.heap.size ≤ w5.heap.size := HB5.out.size
      have hlt := Hhlt.out
      clear hb5 hv5 c0
      go_wp2_with (at_builtin; refine zcg elV rfl _ _ rfl IsV.stb rfl rfl rfl hown5 hel5 rfl (by intro u hu; simp [Value.cells] at hu; subst hu; rfl) (by have h1 := List.length_take_le k a; rw [zch]; omega) hbase ?_; intro v6 w6 hown6 hb6 hz6)
      go_roundw
      case rel =>
        refine ⟨k + 1, fun b => S b ∨ (wr.heap.size ≤ b ∧ b < w5.heap.size), hlt, by go_num, HB5.out.trans hb6, ?_, fun b hb => by rcases hb with hb | hb; exact HS1.out b hb; exact Nat.le_trans hszw hb.1⟩
        rw [zce Hend.out, rawM, List.map_append]
        exact hown6
      case measure => simp [intOf]; omega
    · obtain rfl : k = M := by omega
      have e : a.take k = a := List.take_of_length_le (by rw [Hla.out]; exact Nat.le_refl _)
      rw [e] at Hown
      have hV : IsM wr (New w.heap.size wr) _ (rawM a) := OwnS.isS IsV.stb (T := New w.heap.size wr) Hown.out (fun b hb => ⟨HS1.out b hb, by obtain ⟨_, _, _, _, h4⟩ := Hown.out; exact (h4 b hb).1⟩) (fun b h1 h2 => ⟨h1, h2⟩)
      have HVV := Lib.hid hV
      clear hV e hbw
      go_wp2_with fail
      go_ret
      exact ⟨⟨_, rfl, HVV.out⟩, Hbw.out⟩
theorem bndM_ok {v : Value} {m : List (List Rat)} (h : ∀ r ∈ m, ∀ q ∈ r, Sz q 1024) : bndM v m = .returned (.tuple #[v, .int .i64 0]) := by
  unfold bndM
  have e : (m.all fun l => l.all fitsQ) = true := List.all_eq_true.2 fun r hr => List.all_eq_true.2 fun q hq => fitsQ_true.2 (h r hr q hq)
  rw [e]
  rfl
theorem col_head {M : List (List Rat)} {n m : Nat} (hn : M.length = n) (hn1 : 1 ≤ n) (hrow : ∀ r ∈ M, r.length = m) : ((rawM M).headD []).length = m := by
  cases M with
  | nil => simp at hn; omega
  | cons a t => simp only [rawM, List.map_cons, List.headD_cons]; rw [zbr]; exact hrow a (by simp)
theorem turnQ_row {M : List (List Rat)} {n m : Nat} (hn : M.length = n) : ∀ r ∈ turnQ M m, r.length = n := fun r hr => by
  obtain ⟨c, _, rfl⟩ := List.mem_map.1 hr
  rw [colT_len, hn]
theorem turnQ_len (M : List (List Rat)) (m : Nat) : (turnQ M m).length = m := by simp [turnQ]
theorem turnQ_sz {M : List (List Rat)} {m k : Nat} (hrow : ∀ r ∈ M, r.length = m) (hs : ∀ r ∈ M, ∀ q ∈ r, Sz q k) : ∀ r ∈ turnQ M m, ∀ q ∈ r, Sz q k := fun r hr q hq => by
  obtain ⟨c, hc, rfl⟩ := List.mem_map.1 hr
  obtain ⟨x, hx, rfl⟩ := List.mem_map.1 hq
  have hc' : c < x.length := by rw [hrow x hx]; exact List.mem_range.1 hc
  rw [List.getD_eq_getElem?_getD, List.getElem?_eq_getElem hc']
  exact hs x hx _ (List.getElem_mem _)
set_option maxHeartbeats 1000000 in
theorem vTurn_good {w : World} {v : Value} {M : List (List Rat)} {n m : Nat} (h : IsM w (Old w) v (rawM M)) (hB : Bru w) (hn : M.length = n) (hrow : ∀ r ∈ M, r.length = m) (hn1 : 1 ≤ n) (hn9 : n ≤ 40) (hm9 : m ≤ 40) (hf : chkM (rawM M) = 0) (hs : ∀ r ∈ M, ∀ q ∈ r, Sz q 1024) :
    Calls Tryd.prog 37 #[v] w fun e w' => (∃ v', e = .returned (.tuple #[v', .int .i64 0]) ∧ IsM w' (Old w') v' (rawM (turnQ M m))) ∧ Below w.heap.size w w' := by
  have HM := Lib.hid h
  have HF := Lib.hid hf
  have HB := Lib.hid hB
  have Hs := Lib.hid hs
  have Hrow := Lib.hid hrow
  clear h hf hB hs hrow
  go_enter Tryd.func37, Tryd.ntmps37
  go_wp2_with fail
  refine (form_l HM.out HB.out).mono ?_
  rw [HF.out]
  rintro e w1 ⟨rfl, hb1⟩
  have HB1 := Lib.hid hb1
  clear hb1
  go_wp2_with fail
  refine (turned_l (IsM.stb.next HM.out HB1.out) hn Hrow.out hn1 hn9 hm9).mono ?_
  rintro e w2 ⟨⟨v2, rfl, hv2⟩, hb2⟩
  have V2 := Lib.hid hv2
  have HB2 := Lib.hid (zaa HB1.out hb2)
  clear hv2 hb2
  go_wp2_with fail
  refine (rows_l (M := m) V2.out (turnQ_len M m) (by omega) (fun r hr => by rw [turnQ_row hn r hr]; omega) (fun r hr q hq => (turnQ_sz Hrow.out Hs.out r hr q hq).le (by omega))).mono ?_
  rintro e w3 ⟨⟨v3, rfl, hv3⟩, hb3⟩
  have V3 := Lib.hid (IsM.stb.old hv3)
  have HB3 := Lib.hid (zaa HB2.out hb3)
  clear hv3 hb3
  go_wp2_with fail
  go_ret2
  exact ⟨⟨_, rfl, V3.out⟩, HB3.out⟩
def lineQ (r : List Rat) (N : List (List Rat)) (p : Nat) : List Rat := (turnQ N p).map (dotQ r)
def mulQ (M N : List (List Rat)) (p : Nat) : List (List Rat) := M.map fun r => lineQ r N p
theorem mulQ_len (M N : List (List Rat)) (p : Nat) : (mulQ M N p).length = M.length := List.length_map _
theorem lineQ_len (r : List Rat) (N : List (List Rat)) (p : Nat) : (lineQ r N p).length = p := by simp [lineQ, turnQ_len]
theorem mulQ_at {M N : List (List Rat)} {p k : Nat} {r : List Rat} (h : M[k]? = some r) : (mulQ M N p)[k]? = some (lineQ r N p) := by
  unfold mulQ
  rw [List.getElem?_map, h]
  rfl
theorem lineQ_at {N : List (List Rat)} {p k : Nat} {r c : List Rat} (h : (turnQ N p)[k]? = some c) : (lineQ r N p)[k]? = some (dotQ r c) := by
  unfold lineQ
  rw [List.getElem?_map, h]
  rfl
set_option maxRecDepth 100000 in
set_option maxHeartbeats 4000000 in
theorem vMul_good {w : World} {v vn : Value} {M N : List (List Rat)} {n m p : Nat} (h : IsM w (Old w) v (rawM M)) (hN : IsM w (Old w) vn (rawM N)) (hB : Bru w) (hn : M.length = n) (hrow : ∀ r ∈ M, r.length = m) (hn1 : 1 ≤ n) (hn9 : n ≤ 40) (hm1 : 1 ≤ m) (hm9 : m ≤ 40) (hNl : N.length = m) (hNr : ∀ r ∈ N, r.length = p) (hp9 : p ≤ 40)
    (hf : chkM (rawM M) = 0) (hfN : chkM (rawM N) = 0) (hs : ∀ r ∈ M, ∀ q ∈ r, Sz q 1024) (hsN : ∀ r ∈ N, ∀ q ∈ r, Sz q 1024) (hfit : ∀ r ∈ mulQ M N p, ∀ q ∈ r, Sz q 1024) :
    Calls Tryd.prog 40 #[v, vn] w fun e w' => (∃ v', e = .returned (.tuple #[v', .int .i64 0]) ∧ IsM w' (Old w') v' (rawM (mulQ M N p))) ∧ Below w.heap.size w w' := by
  have HM := Lib.hid h
  have HN := Lib.hid hN
  have HF := Lib.hid hf
  have HFN := Lib.hid hfN
  have HB := Lib.hid hB
  have Hs := Lib.hid hs
  have HsN := Lib.hid hsN
  have Hrow := Lib.hid hrow
  have HNr := Lib.hid hNr
  have Hfit := Lib.hid hfit
  have Hn := Lib.hid hn
  have HNl := Lib.hid hNl
  have hcol := Lib.hid (col_head hn hn1 hrow)
  obtain ⟨A, cA, rfl, _⟩ := zck h
  obtain ⟨X, cX, rfl, _⟩ := zck hN
  have eln : (rawM M).length = n := by rw [zch]; exact hn
  have elx : (rawM N).length = m := by rw [zch]; exact hNl
  rw [eln] at HM
  rw [elx] at HN
  rw [eln, elx]
  clear h hN hf hfN hB hs hsN hrow hNr hfit hn hNl eln elx
  go_enter Tryd.func40, Tryd.ntmps40
  go_wp2_with fail
  refine (form_l HM.out HB.out).mono ?_
  rw [HF.out]
  rintro e w1 ⟨rfl, hb1⟩
  have HB1 := Lib.hid hb1
  clear hb1
  go_wp2_with fail
  refine (form_l (IsM.stb.next HN.out HB1.out) (Bru.next HB.out HB1.out)).mono ?_
  rw [HFN.out]
  rintro e w2 ⟨rfl, hb2⟩
  have HB2 := Lib.hid (zaa HB1.out hb2)
  have hn0 : (0 : Int) < (n : Int) := by omega
  clear hb2
  go_wp2_with fail
  refine (zed (IsM.stb.next HM.out HB2.out)).mono ?_
  rw [hcol.out]
  rintro e w2' ⟨rfl, rfl⟩
  go_wp2_with fail
  refine (turned_l (n := m) (m := p) (IsM.stb.next HN.out HB2.out) HNl.out HNr.out hm1 hm9 hp9).mono ?_
  rintro e w3 ⟨⟨v3, rfl, hv3⟩, hb3⟩
  obtain ⟨Y, cY, rfl, _⟩ := zck hv3
  have ely : (rawM (turnQ N p)).length = p := by rw [zch, turnQ_len]
  rw [ely] at hv3 ⊢
  have HT := Lib.hid hv3
  have HB3 := Lib.hid (zaa HB2.out hb3)
  clear hv3 hb3 ely
  go_wp2_with (at_make; refine zci elV rfl _ _ rfl IsV n rfl rfl rfl (by omega) (base := w3.heap.size) (S := fun _ => False) (Nat.le_refl _) (fun b h => h.elim) ?_; intro v4 w4 hown4 hb4 hz4)
  have HB4 := Lib.hid hb4
  have Hown4 := Lib.hid hown4
  clear hb4 hown4 hz4 hn0
  go_loopw [42, 9, 11, 12, 14] (fun i ov _ _ _ wr => ∃ (k : Nat) (S : Nat → Prop), k ≤ n ∧ i = .int .i64 (k : Int) ∧ Below w3.heap.size w3 wr ∧ Hid (OwnS 1 29 IsV wr w3.heap.size S ov (rawM ((mulQ M N p).take k))) ∧ Hid (∀ b, S b → w3.heap.size ≤ b)) (fun i _ _ _ _ _ => n - (intOf i).toNat)
  case atStart => exact ⟨0, fun _ => False, Nat.zero_le _, rfl, HB4.out, by simpa [rawM, Hid] using Hown4.out, fun b hb => hb.elim⟩
  case round =>
    clear HB4 Hown4
    obtain ⟨wo, hwo⟩ : ∃ x, x = wr := ⟨_, rfl⟩
    obtain ⟨k, S, hk, rfl, hbw, hrel, hS⟩ := hrel
    have Hbw := Lib.hid hbw
    have Hown := Lib.hid hrel.out
    have HS1 := Lib.hid hS.out
    have hszw := hbw.size
    clear hrel hS
    rcases Nat.lt_or_ge k n with hlt | hge
    · obtain ⟨r, hr, hrr⟩ := zem (m := M) (j := k) (by rw [Hn.out]; exact hlt)
      obtain ⟨b1, o1, R, cR, rfl, hSb1, helr, c0⟩ := zcy HM.out hrr
      have elr : (rawV r).length = m := by rw [zbr]; exact Hrow.out r (List.mem_of_getElem? hr)
      rw [elr] at c0 helr
      have hww := zaa HB3.out hbw
      replace c0 := hww.cell (p := ⟨b1, o1 + k, none⟩) hSb1 |>.trans c0
      have Vr := Lib.hid (IsV.stb.to helr (zam hww))
      have VT' := Lib.hid (IsM.stb.next HT.out hbw)
      have HR := Lib.hid (List.mem_of_getElem? hr)
      have Hend : Hid ((mulQ M N p)[k]? = some (lineQ r N p)) := mulQ_at hr
      have Hwr := Lib.hid hww
      have hk0 : (0 : Int) ≤ (k : Int) := by omega
      have hk1 : (k : Int) < (n : Int) := by omega
      have Hhlt := Lib.hid hlt
      clear hr hrr helr elr hbw hSb1 hlt hww
      go_wp2_with (at_make; refine zci elR rfl _ _ rfl IsR p rfl rfl rfl (by omega) (base := wr.heap.size) (S := fun _ => False) (Nat.le_refl _) (fun b h => h.elim) ?_; intro v5 w5 hown5 hb5 hz5)
      have HB5 := Lib.hid hb5
      have Hown5 := Lib.hid hown5
      clear hb5 hown5 hz5 c0
      rw [← hwo] at HB5 Hown5 Hown Hbw Vr VT' Hwr hszw
      clear hwo
      go_loopw [51, 12, 14] (fun jj lv _ wr => ∃ (j : Nat) (S2 : Nat → Prop), j ≤ p ∧ jj = .int .i64 (j : Int) ∧ Below wo.heap.size wo wr ∧ Hid (OwnS 3 50 IsR wr wo.heap.size S2 lv (rawV ((lineQ r N p).take j))) ∧ Hid (∀ b, S2 b → wo.heap.size ≤ b)) (fun jj _ _ _ => p - (intOf jj).toNat)
      case atStart => exact ⟨0, fun _ => False, Nat.zero_le _, rfl, HB5.out, by simpa [rawV, Hid] using Hown5.out, fun b hb => hb.elim⟩
      case round =>
        clear HB5 Hown5
        obtain ⟨j, S2, hj, rfl, hbi, hrel, hS2⟩ := hrel
        have Hbi := Lib.hid hbi
        have OI := Lib.hid hrel.out
        have HS2 := Lib.hid hS2.out
        have hszi := hbi.size
        clear hrel hS2
        rcases Nat.lt_or_ge j p with hjp | hjp
        · obtain ⟨c, hc, hcc⟩ := zem (m := turnQ N p) (j := j) (by rw [turnQ_len]; exact hjp)
          obtain ⟨b2, o2, Cc, cC, rfl, hSb2, helc, d0⟩ := zcy VT'.out hcc
          have HC := Lib.hid (List.mem_of_getElem? hc)
          have elc : (rawV c).length = m := by rw [zbr]; exact turnQ_row HNl.out c HC.out
          rw [elc] at d0 helc
          replace d0 := hbi.cell (p := ⟨b2, o2 + j, none⟩) hSb2 |>.trans d0
          have Vc := Lib.hid (IsV.stb.next helc hbi)
          have Vr2 := Lib.hid (IsV.stb.next Vr.out hbi)
          have Hat : Hid ((lineQ r N p)[j]? = some (dotQ r c)) := lineQ_at hc
          have hj0 : (0 : Int) ≤ (j : Int) := by omega
          have hj1 : (j : Int) < (p : Int) := by omega
          have Hjp := Lib.hid hjp
          clear hc hcc helc elc hbi hSb2 hjp
          go_wp2_with fail
          refine (vdot_q (M := m) Vr2.out Vc.out (Bru.next HB.out (zaa Hwr.out Hbi.out)) (Hrow.out r HR.out) (turnQ_row HNl.out c HC.out) hm9 (Hs.out r HR.out) (turnQ_sz HNr.out HsN.out c HC.out)).mono ?_
          rintro e w6 ⟨⟨v6, rfl, hv6⟩, hb6⟩
          obtain ⟨s6, P6, k6, O6, l6, rfl, _, _, _⟩ := zai hv6
          have hown6 := OwnS.step IsR.stb (T := fun b => S2 b ∨ (wr.heap.size ≤ b ∧ b < w6.heap.size)) OI.out hb6 (fun b h => .inl h) (fun b h => h)
          have hel6 := IsQ.stb.to hv6 (zay (T := fun b => S2 b ∨ (wr.heap.size ≤ b ∧ b < w6.heap.size)) fun b h => .inr h)
          have HB6 := Lib.hid (zaa Hbi.out hb6)
          have hbase : wo.heap.size ≤ w6.heap.size := HB6.out.size
          have hjp := Hjp.out
          clear hb6 hv6 d0
          go_wp2_with (at_builtin; refine zcg elR rfl _ _ rfl IsR.stb rfl rfl rfl hown6 hel6 rfl (by intro u hu; simp [Value.cells] at hu; rcases hu with rfl | rfl | rfl <;> rfl) (by have h1 := List.length_take_le j (lineQ r N p); rw [zbr]; omega) hbase ?_; intro v7 w7 hown7 hb7 hz7)
          go_roundw
          case rel =>
            refine ⟨j + 1, fun b => S2 b ∨ (wr.heap.size ≤ b ∧ b < w6.heap.size), hjp, by go_num, HB6.out.trans hb7, ?_, fun b hb => by rcases hb with hb | hb; exact HS2.out b hb; exact Nat.le_trans hszi hb.1⟩
            rw [zce Hat.out, zeu]
            exact hown7
          case measure => simp [intOf]; omega
        · obtain rfl : j = p := by omega
          have e : (lineQ r N j).take j = lineQ r N j := List.take_of_length_le (by rw [lineQ_len]; exact Nat.le_refl _)
          rw [e] at OI
          obtain ⟨L, cL, hL⟩ := OI.out.slice
          subst hL
          have hel := OwnS.isS IsR.stb (T := fun b => S b ∨ (wo.heap.size ≤ b ∧ b < wr.heap.size)) OI.out (fun b hb => .inr ⟨HS2.out b hb, by obtain ⟨_, _, _, _, h4⟩ := OI.out; exact (h4 b hb).1⟩) (fun b h1 h2 => .inr ⟨h1, h2⟩)
          have hown := OwnS.step IsV.stb (T := fun b => S b ∨ (wo.heap.size ≤ b ∧ b < wr.heap.size)) Hown.out Hbi.out (fun b h => .inl h) (fun b h => h)
          have HBi := Lib.hid (zaa Hbw.out Hbi.out)
          have hbase : w3.heap.size ≤ wr.heap.size := HBi.out.size
          have hlt := Hhlt.out
          clear e hbi
          go_wp2_with (at_builtin; refine zcg elV rfl _ _ rfl IsV.stb rfl rfl rfl hown hel rfl (by intro u hu; simp [Value.cells] at hu; subst hu; rfl) (by have h1 := List.length_take_le k (mulQ M N j); rw [zch]; omega) hbase ?_; intro v8 w8 hown8 hb8 hz8)
          go_roundw
          case rel =>
            refine ⟨k + 1, fun b => S b ∨ (wo.heap.size ≤ b ∧ b < wr.heap.size), hlt, by go_num, HBi.out.trans hb8, ?_, fun b hb => by rcases hb with hb | hb; exact HS1.out b hb; exact Nat.le_trans hszw hb.1⟩
            rw [zce Hend.out, rawM, List.map_append]
            exact hown8
          case measure => simp [intOf]; omega
    · obtain rfl : k = n := by omega
      have e : (mulQ M N p).take k = mulQ M N p := List.take_of_length_le (by rw [mulQ_len, Hn.out]; exact Nat.le_refl _)
      rw [e] at Hown
      have hV : IsM wr (Old wr) _ (rawM (mulQ M N p)) := OwnS.isS IsV.stb (T := Old wr) Hown.out (fun b hb => by obtain ⟨_, _, _, _, h4⟩ := Hown.out; exact (h4 b hb).1) (fun b h1 h2 => h2)
      have HVV := Lib.hid hV
      clear hV e hbw hwo
      go_wp2_with fail
      refine (zdv HVV.out).mono ?_
      rw [bndM_ok Hfit.out]
      rintro e w9 ⟨rfl, hb9⟩
      have HB9 := Lib.hid (zaa (zaa HB3.out Hbw.out) hb9)
      have V9 := Lib.hid (IsM.stb.next HVV.out hb9)
      clear hb9
      go_wp2_with fail
      go_ret2
      exact ⟨⟨_, rfl, V9.out⟩, HB9.out⟩
def zfg (M : List (List Rat)) (x : List Rat) : List Rat := M.map fun r => dotQ r x
theorem applyQ_len (M : List (List Rat)) (x : List Rat) : (zfg M x).length = M.length := List.length_map _
theorem applyQ_at {M : List (List Rat)} {x r : List Rat} {k : Nat} (h : M[k]? = some r) : (zfg M x)[k]? = some (dotQ r x) := by
  unfold zfg
  rw [List.getElem?_map, h]
  rfl
set_option maxRecDepth 100000 in
set_option maxHeartbeats 4000000 in
theorem vApply_good {w : World} {v vx : Value} {M : List (List Rat)} {x : List Rat} {n m : Nat} (h : IsM w (Old w) v (rawM M)) (hx : IsV w (Old w) vx (rawV x)) (hB : Bru w) (hn : M.length = n) (hrow : ∀ r ∈ M, r.length = m) (hn1 : 1 ≤ n) (hn9 : n ≤ 40) (hm9 : m ≤ 40) (hxl : x.length = m) (hf : chkM (rawM M) = 0) (hfx : chkV (rawV x) = 0) (hs : ∀ r ∈ M, ∀ q ∈ r, Sz q 1024) (hsx : ∀ q ∈ x, Sz q 1024) (hfit : ∀ q ∈ zfg M x, Sz q 1024) :
    Calls Tryd.prog 28 #[v, vx] w fun e w' => (∃ v', e = .returned (.tuple #[v', .int .i64 0]) ∧ IsV w' (Old w') v' (rawV (zfg M x))) ∧ Below w.heap.size w w' := by
  have HM := Lib.hid h
  have HX := Lib.hid hx
  have HF := Lib.hid hf
  have HFX := Lib.hid hfx
  have HB := Lib.hid hB
  have Hs := Lib.hid hs
  have Hsx := Lib.hid hsx
  have Hrow := Lib.hid hrow
  have Hfit := Lib.hid hfit
  have Hn := Lib.hid hn
  have Hxl := Lib.hid hxl
  have hcol := Lib.hid (col_head hn hn1 hrow)
  obtain ⟨A, cA, rfl, _⟩ := zck h
  obtain ⟨X, cX, rfl, _⟩ := zav hx
  have eln : (rawM M).length = n := by rw [zch]; exact hn
  have elx : (rawV x).length = m := by rw [zbr]; exact hxl
  rw [eln] at HM
  rw [elx] at HX
  rw [eln, elx]
  clear h hx hf hfx hB hs hsx hrow hfit hn hxl eln elx
  go_enter Tryd.func28, Tryd.ntmps28
  go_wp2_with fail
  refine (form_l HM.out HB.out).mono ?_
  rw [HF.out]
  rintro e w1 ⟨rfl, hb1⟩
  have HB1 := Lib.hid hb1
  clear hb1
  go_wp2_with fail
  refine (zff (IsV.stb.next HX.out HB1.out) (Bru.next HB.out HB1.out)).mono ?_
  rw [HFX.out]
  rintro e w2 ⟨rfl, hb2⟩
  have HB2 := Lib.hid (zaa HB1.out hb2)
  have hn0 : (0 : Int) < (n : Int) := by omega
  clear hb2
  go_wp2_with fail
  refine (zed (IsM.stb.next HM.out HB2.out)).mono ?_
  rw [hcol.out]
  rintro e w2' ⟨rfl, rfl⟩
  go_wp2_with (at_make; refine zci elR rfl _ _ rfl IsR n rfl rfl rfl (by omega) (base := w2.heap.size) (S := fun _ => False) (Nat.le_refl _) (fun b h => h.elim) ?_; intro v3 w3 hown3 hb3 hz3)
  have HB3 := Lib.hid (zaa HB2.out hb3)
  have Hown3 := Lib.hid hown3
  have Hz3 : Hid (w2.heap.size ≤ w3.heap.size) := hz3
  clear hb3 hown3 hz3 hn0
  go_loopw [36, 8, 10] (fun i ov _ wr => ∃ (k : Nat) (S : Nat → Prop), k ≤ n ∧ i = .int .i64 (k : Int) ∧ Below w.heap.size w wr ∧ Hid (OwnS 3 50 IsR wr w2.heap.size S ov (rawV ((zfg M x).take k))) ∧ Hid (∀ b, S b → w2.heap.size ≤ b) ∧ Hid (w2.heap.size ≤ wr.heap.size)) (fun i _ _ _ => n - (intOf i).toNat)
  case atStart => exact ⟨0, fun _ => False, Nat.zero_le _, rfl, HB3.out, by simpa [rawV, Hid] using Hown3.out, fun b hb => hb.elim, Hz3.out⟩
  case round =>
    obtain ⟨k, S, hk, rfl, hbw, hrel, hS, hzw⟩ := hrel
    have Hbw := Lib.hid hbw
    have Hown := Lib.hid hrel.out
    have HS1 := Lib.hid hS.out
    have hszw := hbw.size
    clear hrel hS
    rcases Nat.lt_or_ge k n with hlt | hge
    · obtain ⟨r, hr, hrr⟩ := zem (m := M) (j := k) (by rw [Hn.out]; exact hlt)
      obtain ⟨b1, o1, R, cR, rfl, hSb1, helr, c0⟩ := zcy HM.out hrr
      have elr : (rawV r).length = m := by rw [zbr]; exact Hrow.out r (List.mem_of_getElem? hr)
      rw [elr] at c0 helr
      replace c0 := hbw.cell (p := ⟨b1, o1 + k, none⟩) hSb1 |>.trans c0
      have Vr := Lib.hid (IsV.stb.to helr (zam hbw))
      have Vx := Lib.hid (IsV.stb.next HX.out hbw)
      have HR := Lib.hid (List.mem_of_getElem? hr)
      have Hend : Hid ((zfg M x)[k]? = some (dotQ r x)) := applyQ_at hr
      have hk0 : (0 : Int) ≤ (k : Int) := by omega
      have hk1 : (k : Int) < (n : Int) := by omega
      have Hhlt := Lib.hid hlt
      clear hr hrr helr elr hbw hSb1 hlt
      go_wp2_with fail
      refine (vdot_q (M := m) Vr.out Vx.out (Bru.next HB.out Hbw.out) (Hrow.out r HR.out) Hxl.out hm9 (Hs.out r HR.out) Hsx.out).mono ?_
      rintro e w5 ⟨⟨v5, rfl, hv5⟩, hb5⟩
      obtain ⟨s5, P5, k5, O5, l5, rfl, _, _, _⟩ := zai hv5
      have hown5 := OwnS.step IsR.stb (T := fun b => S b ∨ (wr.heap.size ≤ b ∧ b < w5.heap.size)) Hown.out hb5 (fun b h => .inl h) (fun b h => h)
      have hel5 := IsQ.stb.to hv5 (zay (T := fun b => S b ∨ (wr.heap.size ≤ b ∧ b < w5.heap.size)) fun b h => .inr h)
      have HB5 := Lib.hid (zaa Hbw.out hb5)
      have hbase : w2.heap.size ≤ w5.heap.size := Nat.le_trans hzw.out hb5.size
      have hlt := Hhlt.out
      clear hb5 hv5 c0
      go_wp2_with (at_builtin; refine zcg elR rfl _ _ rfl IsR.stb rfl rfl rfl hown5 hel5 rfl (by intro u hu; simp [Value.cells] at hu; rcases hu with rfl | rfl | rfl <;> rfl) (by have h1 := List.length_take_le k (zfg M x); rw [zbr]; omega) hbase ?_; intro v6 w6 hown6 hb6 hz6)
      go_roundw
      case rel =>
        refine ⟨k + 1, fun b => S b ∨ (wr.heap.size ≤ b ∧ b < w5.heap.size), hlt, by go_num, HB5.out.trans (hb6.mono HB2.out.size), ?_, fun b hb => by rcases hb with hb | hb; exact HS1.out b hb; exact Nat.le_trans hzw.out hb.1, by rw [Hid]; omega⟩
        rw [zce Hend.out, zeu]
        exact hown6
      case measure => simp [intOf]; omega
    · obtain rfl : k = n := by omega
      have e : (zfg M x).take k = zfg M x := List.take_of_length_le (by rw [applyQ_len, Hn.out]; exact Nat.le_refl _)
      rw [e] at Hown
      have hV : IsV wr (Old wr) _ (rawV (zfg M x)) := OwnS.isS IsR.stb (T := Old wr) Hown.out (fun b hb => by obtain ⟨_, _, _, _, h4⟩ := Hown.out; exact (h4 b hb).1) (fun b h1 h2 => h2)
      have HVV := Lib.hid hV
      clear hV e hbw
      go_wp2_with fail
      refine (zes HVV.out).mono ?_
      rw [bndV_ok Hfit.out]
      rintro e w9 ⟨rfl, hb9⟩
      have HB9 := Lib.hid (zaa Hbw.out hb9)
      have V9 := Lib.hid (IsV.stb.next HVV.out hb9)
      clear hb9
      go_wp2_with fail
      go_ret2
      exact ⟨⟨_, rfl, V9.out⟩, HB9.out⟩
end Go.Proofs.YtblpaocignlpkaaDoor
