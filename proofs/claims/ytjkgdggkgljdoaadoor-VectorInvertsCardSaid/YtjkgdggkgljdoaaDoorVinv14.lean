/-
  Package vector's reduced: the states of the elimination, and what lies in memory at each.
-/
import Derived.Test.YtjkgdggkgljdoaaDoorVinv12
import Derived.Test.YtjkgdggkgljdoaaDoorVinv13
import Derived.Test.YtjkgdggkgljdoaaDoorVinv09
import Derived.Test.YtjkgdggkgljdoaaDoorVinv11
import Derived.OrdersIn
import Derived.TacticsIn
import Derived.RangeFuncCalls
namespace Go.Proofs.YtjkgdggkgljdoaaDoor
open Go.RowKit
set_option linter.unusedVariables false
def zch (A : Nat → Nat → Int) (m np c d k : Nat) : Nat → Nat → Int := fun a b => if a < k ∧ a ≠ np ∧ b < m then crossZ (A a b) (A np c) (A a c) (A np b) d else A a b
theorem clrTo_zero (A : Nat → Nat → Int) (m np c d : Nat) : zch A m np c d 0 = A := by funext a b; unfold zch; rw [if_neg (by omega)]
theorem clrTo_skip (A : Nat → Nat → Int) (m np c d : Nat) : zch A m np c d np = zch A m np c d (np + 1) := by
  funext a b
  unfold zch
  by_cases h : a < np ∧ a ≠ np ∧ b < m
  · rw [if_pos h, if_pos ⟨by omega, h.2⟩]
  · rw [if_neg h, if_neg (by omega)]
theorem clrTo_np (A : Nat → Nat → Int) (m np c d k b : Nat) : zch A m np c d k np b = A np b := by unfold zch; rw [if_neg (by omega)]
theorem clrTo_k (A : Nat → Nat → Int) (m np c d k b : Nat) : zch A m np c d k k b = A k b := by unfold zch; rw [if_neg (by omega)]
theorem clrTo_succ (A : Nat → Nat → Int) {m np c d k : Nat} (h : k ≠ np) (a b : Nat) : zds (zch A m np c d k) np k c d m a b = zch A m np c d (k + 1) a b := by
  unfold zds
  by_cases h1 : a = k ∧ b < m
  · obtain ⟨rfl, h2⟩ := h1
    rw [if_pos ⟨rfl, h2⟩, clrTo_k, clrTo_k, clrTo_np, clrTo_np]
    unfold zch
    rw [if_pos ⟨by omega, h, h2⟩]
  · rw [if_neg h1]
    unfold zch
    by_cases h2 : a < k ∧ a ≠ np ∧ b < m
    · rw [if_pos h2, if_pos ⟨by omega, h2.2⟩]
    · rw [if_neg h2, if_neg (by omega)]
theorem clrTo_or (A : Nat → Nat → Int) (m np c d n : Nat) {k a : Nat} (b : Nat) (hk : k ≤ n) : zch A m np c d k a b = A a b ∨ zch A m np c d k a b = zch A m np c d n a b := by
  by_cases h : a < k ∧ a ≠ np ∧ b < m
  · right
    unfold zch
    rw [if_pos h, if_pos ⟨by omega, h.2⟩]
  · left
    unfold zch
    rw [if_neg h]
structure RS where
  A : Nat → Nat → Int
  d : Nat
  piv : List Nat
def zek (A : Nat → Nat → Int) (np n k : Nat) : Option Nat := (List.range n).find? fun r => decide (np ≤ r ∧ A r k ≠ 0)
theorem firstR_some {A : Nat → Nat → Int} {np n k r : Nat} (h : FirstRow A np n k r) : zek A np n k = some r := by
  obtain ⟨h1, h2, h3, h4⟩ := h
  unfold zek
  rw [List.find?_range_eq_some]
  refine ⟨by simp [h1, h3], by simpa using h2, fun j hj => ?_⟩
  by_cases hj2 : np ≤ j
  · simp [h4 j hj2 hj]
  · simp [hj2]
theorem zfs {A : Nat → Nat → Int} {np n k r : Nat} (h : zek A np n k = some r) : FirstRow A np n k r := by
  unfold zek at h
  rw [List.find?_range_eq_some] at h
  obtain ⟨h1, h2, h3⟩ := h
  have h1 := of_decide_eq_true h1
  refine ⟨h1.1, by simpa using h2, h1.2, fun x h4 h5 => ?_⟩
  have := h3 x h5
  simp at this
  exact this.resolve_left (by omega)
def stepG (n m k : Nat) (s : RS) (r : Nat) : RS :=
  ⟨zch (zdg (swF s.A s.piv.length r) m s.piv.length k) m s.piv.length k s.d n, (zdg (swF s.A s.piv.length r) m s.piv.length k s.piv.length k).natAbs, s.piv ++ [k]⟩
def runK (n m : Nat) (A : Nat → Nat → Int) : Nat → RS
  | 0 => ⟨A, 1, []⟩
  | k + 1 => match zek (runK n m A k).A (runK n m A k).piv.length n k with
    | none => runK n m A k
    | some r => stepG n m k (runK n m A k) r
theorem runK_some {n m : Nat} {A : Nat → Nat → Int} {k r : Nat} (h : FirstRow (runK n m A k).A (runK n m A k).piv.length n k r) : runK n m A (k + 1) = stepG n m k (runK n m A k) r := by
  rw [runK, firstR_some h]
theorem runK_none {n m : Nat} {A : Nat → Nat → Int} {k : Nat} (h : ∀ r, ¬ FirstRow (runK n m A k).A (runK n m A k).piv.length n k r) : runK n m A (k + 1) = runK n m A k := by
  rw [runK]
  cases e : zek (runK n m A k).A (runK n m A k).piv.length n k with
  | none => rfl
  | some r => exact absurd (zfs e) (h r)
theorem runK_len {n m : Nat} {A : Nat → Nat → Int} (k : Nat) : (runK n m A k).piv.length ≤ n := by
  induction k with
  | zero => exact Nat.zero_le _
  | succ k ih =>
    rw [runK]
    cases e : zek (runK n m A k).A (runK n m A k).piv.length n k with
    | none => exact ih
    | some r =>
      have := zfs e
      have h1 := this.1
      have h2 := this.2.1
      show ((runK n m A k).piv ++ [k]).length ≤ n
      rw [List.length_append]
      simp
      omega
def BndS (n m : Nat) (s : RS) : Prop := (∀ a b, a < n → b < m → Sz ((s.A a b : Int) : Rat) 100000) ∧ (lim s.d).length ≤ 1000000 ∧ 0 < s.d
theorem swF_ex (rb : Nat → Nat) {n i r : Nat} (hi : i < n) (hr : r < n) : ∀ a, a < n → ∃ j, j < n ∧ swF rb i r a = rb j := fun a ha => by
  unfold swF
  split
  · exact ⟨r, hr, rfl⟩
  · split
    · exact ⟨i, hi, rfl⟩
    · exact ⟨a, ha, rfl⟩
theorem swF_bnd {A : Nat → Nat → Int} {n m i r : Nat} (h : ∀ a b, a < n → b < m → Sz ((A a b : Int) : Rat) 100000) (hi : i < n) (hr : r < n) : ∀ a b, a < n → b < m → Sz ((swF A i r a b : Int) : Rat) 100000 := fun a b ha hb => by
  unfold swF
  split
  · exact h r b hr hb
  · split
    · exact h i b hi hb
    · exact h a b ha hb
theorem flipM_bnd {A : Nat → Nat → Int} {n m i c : Nat} (h : ∀ a b, a < n → b < m → Sz ((A a b : Int) : Rat) 100000) : ∀ a b, a < n → b < m → Sz ((zdg A m i c a b : Int) : Rat) 100000 := fun a b ha hb => by
  unfold zdg
  split
  · exact h a b ha hb
  · unfold zdv
    split
    · rw [Rat.intCast_neg]; exact (h a b ha hb).neg
    · exact h a b ha hb
theorem clrTo_bnd {A : Nat → Nat → Int} {n m np c d : Nat} (h : ∀ a b, a < n → b < m → Sz ((A a b : Int) : Rat) 100000) (h2 : ∀ a b, a < n → b < m → Sz ((zch A m np c d n a b : Int) : Rat) 100000) {k : Nat} (hk : k ≤ n) : ∀ a b, a < n → b < m → Sz ((zch A m np c d k a b : Int) : Rat) 100000 := fun a b ha hb => by
  rcases clrTo_or A m np c d n b hk (a := a) with e | e
  · rw [e]; exact h a b ha hb
  · rw [e]; exact h2 a b ha hb
theorem MatW.others {X Y : World} {row : Option Nat} {S : Nat → Prop} {r0 : Nat} {rb cp : Nat → Nat} {n m : Nat} {A : Nat → Nat → Int} (h : MatW X S r0 rb cp n m A) (hg : X.grownBy Y row) (hrow : ∀ r, row = some r → ∃ o, X.heap[r]? = some o ∧ o.isCells = false) (hn : 0 < n) (hm : 0 < m) : MatW Y S r0 rb cp n m A := by
  have hc : ∀ b o v, X.cell? ⟨b, o, none⟩ = some v → Y.heap[b]? = X.heap[b]? := fun b o v hv => by
    obtain ⟨obj, ho, hcells⟩ := cells_of_cell hv
    refine hg.block b (Array.getElem?_eq_some_iff.1 ho).1 fun e => ?_
    obtain ⟨o2, ho2, hc2⟩ := hrow b e.symm
    rw [ho] at ho2
    cases ho2
    rw [hcells] at hc2
    cases hc2
  have h0 : Y.heap[r0]? = X.heap[r0]? := hc _ _ _ (h.hd 0 hn)
  have hb : ∀ i, i < n → Y.heap[rb i]? = X.heap[rb i]? := fun i hi => by
    obtain ⟨P, k, Q, l, h1, _⟩ := h.el i 0 hi hm
    exact hc _ _ _ h1
  refine ⟨fun i hi => (World.cell?_of_block h0).trans (h.hd i hi), fun i hi => (World.frozen?_of_block h0).trans (h.hf i hi), h.cap, fun i j hi hj => ?_,
    fun i o hi ho => (World.frozen?_of_block (hb i hi)).trans (h.ef i o hi ho), h.inj, fun i hi => ⟨(h.sep i hi).1, (h.sep i hi).2.1, Nat.lt_of_lt_of_le (h.sep i hi).2.2 hg.size⟩, ⟨h.s0.1, Nat.lt_of_lt_of_le h.s0.2 hg.size⟩, fun b hb => Nat.lt_of_lt_of_le (h.sS b hb) hg.size⟩
  obtain ⟨P, k, Q, l, h1, h2, h3, h4⟩ := h.el i j hi hj
  exact ⟨P, k, Q, l, (World.cell?_of_block (hb i hi)).trans h1, (World.cell?_of_block (hb i hi)).trans h2, (World.cell?_of_block (hb i hi)).trans h3, h4.others hg hrow⟩
structure RC where
  n0 : Nat
  r0 : Nat
  c0 : Nat
  n : Nat
  m : Nat
  width : Nat
  G : Nat
  mb : Nat
  MV : Nat
  B : Nat
  b1 : Nat
  E : Obj
  eE : E.isCells = false
def RC.Free (C : RC) (b : Nat) : Prop := b ≠ C.G ∧ b ≠ C.G + 1 ∧ b ≠ C.mb ∧ b ≠ C.MV ∧ b ≠ C.B ∧ b ≠ C.B + 1
structure RC.Ok (C : RC) : Prop where
  n1 : 1 ≤ C.n
  n9 : C.n ≤ 40
  m1 : 1 ≤ C.m
  m9 : C.m ≤ 80
  lt : C.G + 1 < C.b1 ∧ C.mb < C.b1 ∧ C.MV < C.b1 ∧ C.B + 1 < C.b1
  le : C.n0 ≤ C.b1
  ne : C.mb ≠ C.G ∧ C.G ≠ C.MV ∧ C.G ≠ C.B ∧ C.G ≠ C.B + 1
  lo : C.n0 ≤ C.G ∧ C.n0 ≤ C.mb ∧ C.n0 ≤ C.MV ∧ C.n0 ≤ C.B
  cap : C.n ≤ C.c0
structure Fx (C : RC) (W : World) : Prop where
  v : Row W (C.G + 1) 105 [.pointer (some ⟨C.G, 0, none⟩)]
  mv : Row W C.MV 136 [.map (some C.mb)]
  mo : W.heap[C.mb]? = some C.E
  b0 : Row W C.B 105 [.pointer (some ⟨C.G, 0, none⟩)]
  b1 : Row W (C.B + 1) 3 [.int .i64 (C.width : Int)]
theorem Fx.step {C : RC} {W W' : World} (h : Fx C W) {r : Option Nat} (hg : W.grownBy W' r) (hr : ∀ b, r = some b → b ≠ C.G + 1 ∧ b ≠ C.mb ∧ b ≠ C.MV ∧ b ≠ C.B ∧ b ≠ C.B + 1) : Fx C W' where
  v := h.v.grownN hg fun b e => Ne.symm (hr b e).1
  mv := h.mv.grownN hg fun b e => Ne.symm (hr b e).2.2.1
  mo := (hg.block _ (Array.getElem?_eq_some_iff.1 h.mo).1 fun e => (hr _ e.symm).2.1 rfl).trans h.mo
  b0 := h.b0.grownN hg fun b e => Ne.symm (hr b e).2.2.2.1
  b1 := h.b1.grownN hg fun b e => Ne.symm (hr b e).2.2.2.2
structure InvR (C : RC) (W : World) (s : RS) (S : Nat → Prop) (rb cp : Nat → Nat) (Pv D : Option Addr) (cv cd : Nat) : Prop where
  mat : MatW W S C.r0 rb cp C.n C.m s.A
  row : Row W C.G 110 [.slice (some ⟨C.r0, 0, none⟩) C.n C.c0, .slice Pv s.piv.length cv, .slice D (lim s.d).length cd]
  num : NumS W S (.slice D (lim s.d).length cd) s.d
  piv : OwnS 1 3 IsVal W C.b1 (fun _ => False) (.slice Pv s.piv.length cv) (s.piv.map fun (k : Nat) => Value.int .i64 (k : Int))
  fx : Fx C W
  f0 : C.Free C.r0 ∧ C.n0 ≤ C.r0 ∧ C.r0 < C.b1
  fr : ∀ i, i < C.n → C.Free (rb i) ∧ C.n0 ≤ rb i ∧ rb i < C.b1
  fs : ∀ b, S b → C.Free b ∧ (Value.slice Pv s.piv.length cv).ownBlock ≠ some b
  sz : C.b1 ≤ W.heap.size
theorem InvR.move {C : RC} (ok : C.Ok) {W W' : World} {s : RS} {S T : Nat → Prop} {rb cp rb' cp' : Nat → Nat} {Pv D : Option Addr} {cv cd : Nat} {A' : Nat → Nat → Int} {x : Option Nat} (h : InvR C W s S rb cp Pv D cv cd) (hM : MatW W' T C.r0 rb' cp' C.n C.m A') (hg : W.grownBy W' x)
    (hx : ∀ b, x = some b → b = C.r0 ∨ ∃ i, i < C.n ∧ b = rb i) (hrb : ∀ i, i < C.n → ∃ j, j < C.n ∧ rb' i = rb j) (hST : ∀ b, S b → T b) (hT : ∀ b, T b → S b ∨ W.heap.size ≤ b) : InvR C W' { s with A := A' } T rb' cp' Pv D cv cd := by
  have hfr : ∀ b, x = some b → C.Free b ∧ b < C.b1 ∧ ¬ S b := fun b e => by
    rcases hx b e with rfl | ⟨i, hi, rfl⟩
    · exact ⟨h.f0.1, h.f0.2.2, h.mat.s0.1⟩
    · exact ⟨(h.fr i hi).1, (h.fr i hi).2.2, (h.mat.sep i hi).2.1⟩
  have hlt := ok.lt
  have hne := ok.ne
  have hsz := h.sz
  exact {
    mat := hM
    row := h.row.grownN hg fun b e => Ne.symm (hfr b e).1.1
    num := IsK.stb.to h.num fun b hb => ⟨hST b hb, fun o => World.cell?_of_block (hg.block b (h.mat.sS b hb) fun e => (hfr b e.symm).2.2 hb)⟩
    piv := OwnS.grown IsVal.stb h.piv hg fun b e => ⟨fun e2 => by have := (h.piv.own_lt b e2).1; have := (hfr b e).2.1; omega, fun h => h⟩
    fx := h.fx.step hg fun b e => by exact (hfr b e).1.2
    f0 := h.f0
    fr := fun i hi => by obtain ⟨j, hj, e⟩ := hrb i hi; rw [e]; exact h.fr j hj
    fs := fun b hb => by
      rcases hT b hb with h' | h'
      · exact h.fs b h'
      · refine ⟨⟨?_, ?_, ?_, ?_, ?_, ?_⟩, fun e => ?_⟩
        · omega
        · omega
        · omega
        · omega
        · omega
        · omega
        · have := (h.piv.own_lt b e).2; omega
    sz := Nat.le_trans h.sz hg.size }
theorem InvR.below {C : RC} (ok : C.Ok) {W W' : World} {s : RS} {S : Nat → Prop} {rb cp : Nat → Nat} {Pv D : Option Addr} {cv cd : Nat} (h : InvR C W s S rb cp Pv D cv cd) (hb : Below W.heap.size W W') : InvR C W' s S rb cp Pv D cv cd :=
  h.move ok (A' := s.A) (h.mat.next hb (fun b h => h) (fun b h => .inl h)) (zbe hb) (x := none) (fun b e => by cases e) (fun i hi => ⟨i, hi, rfl⟩) (fun b h => h) (fun b h => .inl h)
theorem InvR.others {C : RC} (ok : C.Ok) {W W' : World} {s : RS} {S : Nat → Prop} {rb cp : Nat → Nat} {Pv D : Option Addr} {cv cd : Nat} {r : Option Nat} (h : InvR C W s S rb cp Pv D cv cd) (hg : W.grownBy W' r) (hr : ∀ x, r = some x → C.b1 ≤ x ∧ ∃ o : Obj, W.heap[x]? = some o ∧ o.isCells = false) : InvR C W' s S rb cp Pv D cv cd := by
  have hlt := ok.lt
  have hrow : ∀ x, r = some x → ∃ o, W.heap[x]? = some o ∧ o.isCells = false := fun x e => (hr x e).2
  refine { mat := h.mat.others hg hrow ok.n1 ok.m1, row := h.row.others hg hrow, num := ?_, piv := ?_, fx := h.fx.step hg fun b e => ?_, f0 := h.f0, fr := h.fr, fs := h.fs, sz := Nat.le_trans h.sz hg.size }
  · refine IsK.stb.to (IsK.cells h.num) fun b hb => ⟨hb.1, fun o => ?_⟩
    obtain ⟨obj, ho, hc⟩ := hb.2
    refine World.cell?_of_block (hg.block b (Array.getElem?_eq_some_iff.1 ho).1 fun e => ?_)
    obtain ⟨o2, ho2, hc2⟩ := hrow b e.symm
    rw [ho] at ho2
    cases ho2
    rw [hc] at hc2
    cases hc2
  · refine OwnS.grown IsVal.stb h.piv hg fun b e => ⟨fun e2 => ?_, fun h => h⟩
    obtain ⟨o2, ho2, hc2⟩ := hrow b e
    by_cases hp : s.piv = []
    · have h1 := h.piv
      obtain ⟨es, h1, h2, h3, h4⟩ := h1
      rcases h1.2 with ⟨h5, _⟩ | ⟨g, cap, cur, h5, h6, h7, _⟩
      · rw [h5] at e2; cases e2
      · rw [h5] at e2
        have e2 : g = b := by simpa [Value.ownBlock] using e2
        rw [← e2, h7] at ho2
        cases ho2
        cases hc2
    · obtain ⟨g, c, cur, es, h1, h2, h3, _⟩ := h.piv.shape (by simpa using hp)
      rw [h1] at e2
      have e2 : g = b := by simpa [Value.ownBlock] using e2
      rw [← e2, h3] at ho2
      cases ho2
      cases hc2
  · have := (hr b e).1
    omega
theorem InvR.put {C : RC} {W W' : World} {s : RS} {S : Nat → Prop} {rb cp : Nat → Nat} {Pv D : Option Addr} {cv cd : Nat} (h : InvR C W s S rb cp Pv D cv cd) {d' : Nat} {p' : List Nat} {Pv' D' : Option Addr} {cv' cd' : Nat}
    (hsz : W.heap.size ≤ W'.heap.size) (hblk : ∀ b, b < W.heap.size → b ≠ C.G → (Value.slice Pv s.piv.length cv).ownBlock ≠ some b → W'.heap[b]? = W.heap[b]?)
    (hrow : Row W' C.G 110 [.slice (some ⟨C.r0, 0, none⟩) C.n C.c0, .slice Pv' p'.length cv', .slice D' (lim d').length cd']) (hnum : NumS W S (.slice D' (lim d').length cd') d')
    (hpiv : OwnS 1 3 IsVal W' C.b1 (fun _ => False) (.slice Pv' p'.length cv') (p'.map fun (k : Nat) => Value.int .i64 (k : Int))) (hown : ∀ b, b < W.heap.size → (Value.slice Pv s.piv.length cv).ownBlock ≠ some b → (Value.slice Pv' p'.length cv').ownBlock ≠ some b) (ok : C.Ok) :
    InvR C W' ⟨s.A, d', p'⟩ S rb cp Pv' D' cv' cd' := by
  have hp : ∀ b, b < C.b1 → (Value.slice Pv s.piv.length cv).ownBlock ≠ some b := fun b hb e => by have := (h.piv.own_lt b e).1; omega
  have hsz0 := h.sz
  have hlt := ok.lt
  have hfb : ∀ b, b < C.b1 → b ≠ C.G → W'.heap[b]? = W.heap[b]? := fun b h1 h2 => hblk b (by omega) h2 (hp b h1)
  have hS : ∀ b, S b → W'.heap[b]? = W.heap[b]? := fun b hb => hblk b (h.mat.sS b hb) (h.fs b hb).1.1 (h.fs b hb).2
  have hne := ok.ne
  refine ⟨h.mat.keep hsz (hfb _ h.f0.2.2 h.f0.1.1) (fun i hi => hfb _ (h.fr i hi).2.2 (h.fr i hi).1.1) hS (fun b h => h) (fun b h => .inl h), hrow, IsK.stb.to hnum fun b hb => ⟨hb, fun o => World.cell?_of_block (hS b hb)⟩, hpiv,
    ⟨(hfb _ hlt.1 (by omega)).trans h.fx.v, (hfb _ hlt.2.2.1 (by omega)).trans h.fx.mv, (hfb _ hlt.2.1 (by omega)).trans h.fx.mo, (hfb _ (by omega) (by omega)).trans h.fx.b0, (hfb _ hlt.2.2.2 (by omega)).trans h.fx.b1⟩, h.f0, h.fr, fun b hb => ⟨(h.fs b hb).1, hown b (h.mat.sS b hb) (h.fs b hb).2⟩, Nat.le_trans h.sz hsz⟩
theorem OwnS.own_cells {α : Type} {n : Nat} {t : TypeId} {R : World → (Nat → Prop) → Value → α → Prop} {w : World} {base : Nat} {S : Nat → Prop} {v : Value} {l : List α} (h : OwnS n t R w base S v l) : ∀ b, v.ownBlock = some b → ∃ o, w.heap[b]? = some o ∧ o.isCells = true := fun b e => by
  obtain ⟨es, h1, h2, h3, h4⟩ := h
  rcases h1.2 with ⟨h5, _⟩ | ⟨g, cap, cur, h5, h6, h7, _⟩
  · rw [h5] at e; cases e
  · rw [h5] at e
    have e : g = b := by simpa [Value.ownBlock] using e
    rw [← e]
    exact ⟨_, h7, rfl⟩
section
variable {P : Program} {ops : Array Oper} {Q : Exit → Act → World → Prop}
theorem operIn_of_oper {o : Oper} {a : Act} {w : World} {K : Act → World → Prop} {l m : Nat} (hd : ∀ c, o.op ≠ .defer c) (h : o.wp P a w K Q) : o.wpIn (Fence.wide.inRound l) m P a w K Q := by
  refine ⟨fun f _ => trivial, ?_⟩
  rw [Fence.inRound_round, Oper.semAt_some _ _ _ hd]
  unfold Oper.wp at h
  generalize (execOp a.eval o).run P w = r at *
  cases r with
  | ok n w' =>
    cases n <;> simp only [Oper.upon] at h <;> simp only [Oper.uponIn] <;> first | exact h | (exfalso; exact h) | skip
    · exact ⟨(fun h0 => by cases h0), CallsIn.inRound _ (callsIn_wide.2 (h.mono fun e w'' he => by cases e <;> exact he))⟩
    · exact ⟨(fun h0 => by cases h0), fun c cs _ => let ⟨v, w', r, s⟩ := h c cs; ⟨v, w', r, stepsIn_wide.2 s⟩⟩
  | halt x w' => cases x <;> simp only [Oper.upon] at h <;> simp only [Oper.uponIn] <;> first | exact h | exact h.elim
theorem wpAnyInR_of_seq {md : Region.Mode} {lr mr : Nat} {Q' : Exit → Act → World → Prop} : ∀ (l : List Oper) (k : Nat) (listed : Array Bool) (a : Act) (w : World), (∀ j, l[j]? = ops[k + j]?) →
    Region.seqB md ops l.length k listed = true → wpListIn (Fence.wide.inRound lr) mr P ops Q' l a w → wpAnyIn (Fence.wide.inRound lr) mr P md ops Q' l.length listed a w
  | [], _, _, _, _, _, hB, h => ⟨by simpa [Region.seqB] using hB, h⟩
  | o :: l, k, listed, a, w, hl, hB, h => by
    have h0 : ops[k]? = some o := by simpa using (hl 0).symm
    simp only [List.length_cons, Region.seqB, Bool.and_eq_true, decide_eq_true_eq] at hB
    refine ⟨fun h1 => (by rw [hB.1] at h1; cases h1), fun i hi => ?_⟩
    rw [hB.1] at hi
    have hik : i = k := by simpa using hi
    subst hik
    have hw : wpOpIn (Fence.wide.inRound lr) mr P ops Q' i (wpListIn (Fence.wide.inRound lr) mr P ops Q' l) a w := by unfold wpOpIn; simp only [h0]; exact h
    exact wpOpIn_mono (fun a' w' h' => wpAnyInR_of_seq l (i + 1) _ a' w' (fun j => by have := hl (j + 1); simpa [Nat.add_assoc, Nat.add_comm 1 j] using this) hB.2 h') hw
end
section
variable {P : Program} {ops : Array Oper} {Q : Exit → Act → World → Prop} {Φ : Nat → Value → World → (Nat → Option Value) → Prop} {Pre : Nat → World → Prop} {J : World → Prop} {E : Nat → World → World → Prop} {a0 : Act} {w0 : World} {n : Nat} {lr mr : Nat}
theorem wpAnyIn_rz (hdf : ∀ (j : Nat) (o : Oper), ops[j]? = some o → ∀ c, o.op ≠ .defer c) (hPs : ∀ i k w w', i ≠ k → Pre i w → J w → E k w w' → Pre i w') (hst : ∀ i k v w w' X u, i ≠ k → X k = none → Φ i v w X → J w → E k w w' → Φ i v w' (updX X k u)) (hg : growsZ ops n a0.tmps.size = true)
    (hseq : Region.seqB .any ops (ops.toList.drop n).length n (firstZ n ops.size) = true)
    (hstep : ∀ i o, i < n → ops[i]? = some o → ∀ (a : Act) (w : World) (X : Nat → Option Value), a.tmps.size = a0.tmps.size → a.defers = a0.defers → J w → Pre i w → X i = none → (∀ t, slotZ ops n t = false → a.tmps[t]? = a0.tmps[t]?) →
      (∀ j oj, j ∈ zcn o → ops[j]? = some oj → X j = some (zdz a.tmps oj) ∧ Φ j (zdz a.tmps oj) w X) →
      if Region.wanted o (yielded ops a.tmps) = true then o.wp P a w (fun a' w' => ∃ v, a' = a.put o.dst v ∧ E i w w' ∧ J w' ∧ Φ i (if o.dst.isSome then v else undef) w' (updX X i (if o.dst.isSome then v else undef))) Q else ∀ u, Φ i u w (updX X i u) ∧ E i w w)
    (hend : ∀ (a : Act) (w : World) (X : Nat → Option Value), a.tmps.size = a0.tmps.size → a.defers = a0.defers → J w → (∀ t, slotZ ops n t = false → a.tmps[t]? = a0.tmps[t]?) →
      (∀ j oj, j < n → ops[j]? = some oj → X j = some (zdz a.tmps oj) ∧ Φ j (zdz a.tmps oj) w X) → wpListIn (Fence.wide.inRound lr) mr P ops Q (ops.toList.drop n) a w) :
    ∀ (fuel : Nat) (listed : Array Bool) (a : Act) (w : World) (X : Nat → Option Value), listed.size = ops.size → cntU listed.toList = fuel → GrowInvZ ops n Φ Pre J a0 X listed a w → wpAnyIn (Fence.wide.inRound lr) mr P .any ops Q fuel listed a w := by
  have hlt0 := growsZ_lt hg
  have fin : ∀ (fuel : Nat) (listed : Array Bool) (a : Act) (w : World) (X : Nat → Option Value), listed.size = ops.size → cntU listed.toList = fuel → GrowInvZ ops n Φ Pre J a0 X listed a w → (∀ j, j < n → listed[j]? = some true) → wpAnyIn (Fence.wide.inRound lr) mr P .any ops Q fuel listed a w := by
    intro fuel listed a w X hsz hc inv hall
    obtain rfl := first_eq hsz hlt0 hall inv.last
    rw [cntU_first] at hc
    have h1 := hend a w X inv.size inv.defers inv.inv inv.free fun j oj hjn hj => ⟨by rw [inv.known j oj hj, if_pos (hall j hjn)], inv.holds j oj hjn hj (hall j hjn)⟩
    have h2 := wpAnyInR_of_seq (md := .any) (Q' := Q) (ops.toList.drop n) n (firstZ n ops.size) a w (fun j => by rw [List.getElem?_drop, Array.getElem?_toList]) hseq h1
    have h3 : (ops.toList.drop n).length = fuel := by rw [List.length_drop, Array.length_toList]; exact hc
    rwa [h3] at h2
  have stuck : ∀ (listed : Array Bool) (a : Act) (w : World) (X : Nat → Option Value), listed.size = ops.size → Region.ready .any ops listed = [] → GrowInvZ ops n Φ Pre J a0 X listed a w → ∀ j, j < n → listed[j]? = some true := by
    intro listed a w X hsz hr inv
    have all : ∀ k i, i < k → i < n → listed[i]? = some true := by
      intro k
      induction k with
      | zero => intro i hi; omega
      | succ k ih =>
        intro i hi hlt
        rcases Nat.lt_or_ge i k with h | h
        · exact ih i h hlt
        · obtain rfl : i = k := by omega
          have hlo : i < ops.size := by omega
          have hl : i < listed.size := by omega
          cases hb : listed[i] with
          | true => rw [Array.getElem?_eq_getElem hl, hb]
          | false =>
            exfalso
            have hm : i ∈ Region.ready .any ops listed := by
              unfold Region.ready
              refine List.mem_filter.2 ⟨List.mem_range.2 hlo, ?_⟩
              have hi : ops[i]? = some ops[i] := Array.getElem?_eq_getElem hlo
              obtain ⟨_, hn, _⟩ := growsZ_at hg hlt hi
              rw [hi]
              simp only [Option.map_some, Option.getD_some, Bool.and_eq_true, Bool.not_eq_true']
              refine ⟨by simp [Array.getD_eq_getD_getElem?, Array.getElem?_eq_getElem hl, hb], Array.all_eq_true'.2 fun e he => ?_⟩
              cases hbd : Region.binds .any e with
              | false => rfl
              | true =>
                have hj := hn e.on (List.mem_map.2 ⟨e, List.mem_filter.2 ⟨by simpa using he, hbd⟩, rfl⟩)
                have := ih e.on hj (by omega)
                simp [Array.getD_eq_getD_getElem?, this]
            rw [hr] at hm
            cases hm
    exact fun j hj => all (j + 1) j (by omega) hj
  intro fuel
  induction fuel with
  | zero =>
    intro listed a w X hsz hc inv
    exfalso
    have h1 := inv.last n (Nat.le_refl _) hlt0
    have h2 := cntU_zero (l := listed.toList) (i := n) (b := false) hc (by rw [Array.getElem?_toList]; exact h1)
    cases h2
  | succ fuel ih =>
    intro listed a w X hsz hc inv
    by_cases hall : ∀ j, j < n → listed[j]? = some true
    · exact fin (fuel + 1) listed a w X hsz hc inv hall
    refine ⟨fun hr => absurd (stuck listed a w X hsz hr inv) hall, fun i hm => ?_⟩
    have hlt : i < ops.size := by
      unfold Region.ready at hm
      exact List.mem_range.1 (List.mem_filter.1 hm).1
    have hi : ops[i]? = some ops[i] := Array.getElem?_eq_getElem hlt
    obtain ⟨h1, h2⟩ := ready_needs hi hm
    have hl : i < listed.size := by omega
    have hb : listed[i] = false := by simpa [Array.getD_eq_getD_getElem?, Array.getElem?_eq_getElem hl] using h1
    have need : ∀ j ∈ zcn ops[i], listed[j]? = some true := by
      intro j hj
      have h3 := h2 j hj
      rcases Nat.lt_or_ge j listed.size with hjl | hjl
      · rw [Array.getElem?_eq_getElem hjl]
        simp only [Array.getD_eq_getD_getElem?, Array.getElem?_eq_getElem hjl, Option.getD_some] at h3
        rw [h3]
      · simp [Array.getD_eq_getD_getElem?, Array.getElem?_eq_none hjl] at h3
    have hin : i < n := by
      rcases Nat.lt_or_ge i n with hin | hin
      · exact hin
      · exfalso
        rcases Nat.eq_or_lt_of_le hin with h3 | h3
        · subst h3
          exact hall (all_listedZ hg (fun o ho j hj => by rw [hi] at ho; cases ho; exact need j hj) inv.down)
        · have h4 := need n (growsZ_tail hg h3 hi)
          rw [inv.last n (Nat.le_refl _) hlt0] at h4
          cases h4
    obtain ⟨hdu, hne, _⟩ := growsZ_at hg hin hi
    have hXi : X i = none := by rw [inv.known i _ hi, if_neg (by rw [Array.getElem?_eq_getElem hl, hb]; simp)]
    have hs := hstep i ops[i] hin hi a w X inv.size inv.defers inv.inv (inv.pre i (by rw [Array.getElem?_eq_getElem hl, hb])) hXi inv.free fun j oj hj hoj => ⟨by rw [inv.known j oj hoj, if_pos (need j hj)], inv.holds j oj (by have := hne j hj; omega) hoj (need j hj)⟩
    have next : ∀ (v : Value) (w' : World), E i w w' → J w' → Φ i (if ops[i].dst.isSome then v else undef) w' (updX X i (if ops[i].dst.isSome then v else undef)) → wpAnyIn (Fence.wide.inRound lr) mr P .any ops Q fuel (listed.setIfInBounds i true) (a.put ops[i].dst v) w' := by
      intro v w' hgr hJ hv
      have hput : ∀ t, (∀ d, ops[i].dst = some d → t ≠ d) → (a.put ops[i].dst v).tmps[t]? = a.tmps[t]? := by
        intro t ht
        cases hd : ops[i].dst with
        | none => rfl
        | some d => exact put_other _ _ (ht d hd)
      have hsv : ∀ j oj, j < n ∨ oj.dst = none ∨ True → j ≠ i → ops[j]? = some oj → (∀ d, ops[i].dst = some d → oj.dst ≠ some d) → zdz (a.put ops[i].dst v).tmps oj = zdz a.tmps oj := by
        intro j oj _ hji hj hne'
        unfold zdz
        cases hdj : oj.dst with
        | none => rfl
        | some dj => exact getD_of (hput dj fun d hd e => hne' d hd (by rw [hdj, e]))
      have hself : zdz (a.put ops[i].dst v).tmps ops[i] = if ops[i].dst.isSome then v else undef := by
        unfold zdz
        cases hd : ops[i].dst with
        | none => rfl
        | some d =>
          simp only
          rw [put_same _ _ (by rw [inv.size]; exact (hdu d hd).1)]
          rfl
      refine ih _ _ _ (updX X i (if ops[i].dst.isSome then v else undef)) (by simp [hsz]) ?_ ⟨?_, ?_, hJ, fun k hk => ?_, fun t ht => ?_, fun j oj hjn hj hlj => ?_, fun j oj hj => ?_, fun k o hk hlk j hj => ?_, fun k hk hks => ?_⟩
      · have := cntU_set (l := listed.toList) (i := i) (by simp [hl, hb])
        simp only [Array.toList_setIfInBounds]
        omega
      · cases hd : ops[i].dst with
        | none => exact inv.size
        | some d => rw [put_size]; exact inv.size
      · cases hd : ops[i].dst with
        | none => exact inv.defers
        | some d => exact inv.defers
      · have hki : k ≠ i := by
          rintro rfl
          rw [Array.getElem?_setIfInBounds_self_of_lt hl] at hk
          cases hk
        rw [Array.getElem?_setIfInBounds_ne (Ne.symm hki)] at hk
        exact hPs k i w w' hki (inv.pre k hk) inv.inv hgr
      · rw [hput t (by
          rintro d hd rfl
          unfold slotZ at ht
          rw [List.any_eq_false] at ht
          have := ht i (List.mem_range.2 hin)
          rw [hi] at this
          simp [hd] at this)]
        exact inv.free t ht
      · by_cases hji : j = i
        · subst hji
          rw [hi] at hj
          cases hj
          rw [hself]
          exact hv
        · rw [hsv j oj (.inl hjn) hji hj fun d hd e => hji ((hdu d hd).2 j oj hjn hj e)]
          rw [Array.getElem?_setIfInBounds_ne (Ne.symm hji)] at hlj
          exact hst j i _ _ _ X _ hji hXi (inv.holds j oj hjn hj hlj) inv.inv hgr
      · by_cases hji : j = i
        · subst hji
          rw [hi] at hj
          cases hj
          rw [hself, Array.getElem?_setIfInBounds_self_of_lt hl, if_pos rfl, updX, if_pos rfl]
        · rw [updX_ne hji, Array.getElem?_setIfInBounds_ne (Ne.symm hji), inv.known j oj hj]
          rcases Nat.lt_or_ge j n with hjn | hjn
          · rw [hsv j oj (.inl hjn) hji hj fun d hd e => hji ((hdu d hd).2 j oj hjn hj e)]
          · rw [inv.last j hjn (Array.getElem?_eq_some_iff.1 hj).1]
            rfl
      · have hj' : listed[j]? = some true := by
          by_cases hki : k = i
          · subst hki
            rw [hi] at hk
            cases hk
            exact need j hj
          · rw [Array.getElem?_setIfInBounds_ne (Ne.symm hki)] at hlk
            exact inv.down k o hk hlk j hj
        by_cases hji : j = i
        · subst hji
          rw [Array.getElem?_setIfInBounds_self_of_lt hl]
        · rw [Array.getElem?_setIfInBounds_ne (Ne.symm hji)]
          exact hj'
      · rw [Array.getElem?_setIfInBounds_ne (by omega)]
        exact inv.last k hk hks
    unfold wpOpIn
    rw [hi]
    simp only
    split
    · rename_i hw
      rw [if_pos hw] at hs
      exact operIn_of_oper (hdf i _ hi) (Oper.wp_mono (fun a' w' ⟨v, ha, hbw, hJ, hv⟩ => by rw [ha]; exact next v w' hbw hJ hv) hs)
    · rename_i hw
      rw [if_neg hw] at hs
      exact ⟨fun f _ => trivial, next undef w (hs undef).2 inv.inv (by split <;> exact (hs undef).1)⟩
theorem zfo {id : Nat} (n : Nat) (Φ : Nat → Value → World → (Nat → Option Value) → Prop) (Pre : Nat → World → Prop) (J : World → Prop) (E : Nat → World → World → Prop) (hm : P.follows .mixedOrders = true) (hdf : ∀ (j : Nat) (o : Oper), ops[j]? = some o → ∀ c, o.op ≠ .defer c) (hJ0 : J w0.drew) (hP0 : ∀ i, Pre i w0.drew)
    (hPs : ∀ i k w w', i ≠ k → Pre i w → J w → E k w w' → Pre i w') (hst : ∀ i k v w w' X u, i ≠ k → X k = none → Φ i v w X → J w → E k w w' → Φ i v w' (updX X k u)) (hg : growsZ ops n a0.tmps.size = true)
    (hseq : Region.seqB .any ops (ops.toList.drop n).length n (firstZ n ops.size) = true)
    (hstep : ∀ i o, i < n → ops[i]? = some o → ∀ (a : Act) (w : World) (X : Nat → Option Value), a.tmps.size = a0.tmps.size → a.defers = a0.defers → J w → Pre i w → X i = none → (∀ t, slotZ ops n t = false → a.tmps[t]? = a0.tmps[t]?) →
      (∀ j oj, j ∈ zcn o → ops[j]? = some oj → X j = some (zdz a.tmps oj) ∧ Φ j (zdz a.tmps oj) w X) →
      if Region.wanted o (yielded ops a.tmps) = true then o.wp P a w (fun a' w' => ∃ v, a' = a.put o.dst v ∧ E i w w' ∧ J w' ∧ Φ i (if o.dst.isSome then v else undef) w' (updX X i (if o.dst.isSome then v else undef))) Q else ∀ u, Φ i u w (updX X i u) ∧ E i w w)
    (hend : ∀ (a : Act) (w : World) (X : Nat → Option Value), a.tmps.size = a0.tmps.size → a.defers = a0.defers → J w → (∀ t, slotZ ops n t = false → a.tmps[t]? = a0.tmps[t]?) →
      (∀ j oj, j < n → ops[j]? = some oj → X j = some (zdz a.tmps oj) ∧ Φ j (zdz a.tmps oj) w X) → wpListIn (Fence.wide.inRound lr) mr P ops Q (ops.toList.drop n) a w) :
    (Code.region id ops true).wpIn (Fence.wide.inRound lr) mr P Q a0 w0 := by
  have hlt0 := growsZ_lt hg
  refine wpIn_region_any hm (wpAnyIn_rz hdf hPs hst hg hseq hstep hend _ _ _ _ (fun _ => none) (by simp) (by simp [zee]) ⟨rfl, rfl, hJ0, fun i _ => hP0 i, fun _ _ => rfl, fun j oj hjn hj hlj => ?_, fun j oj hj => ?_, fun i o hi hl => ?_, fun k hk hks => ?_⟩)
  · rw [Array.getElem?_replicate] at hlj
    split at hlj <;> cases hlj
  · rw [if_neg]
    rw [Array.getElem?_replicate]
    split <;> simp
  · rw [Array.getElem?_replicate] at hl
    split at hl <;> cases hl
  · rw [Array.getElem?_replicate, if_pos hks]
end
theorem regionIn_abs {F : Fence} {m : Nat} {P : Program} {id : Nat} {lit : Array Oper} {d : Bool} {Q : Exit → Act → World → Prop} {a : Act} {w : World} (h : ∀ ops, ops = lit → (Code.region id ops d).wpIn F m P Q a w) : (Code.region id lit d).wpIn F m P Q a w := h lit rfl
theorem int_infoJ : (Tryd.prog.info? 3).map (fun i => (i.zero, i.size, i.bytes)) = some (some (.int .i64 0), 1, 8) := by kernel_rfl
theorem elJ : ElN Tryd.prog 22 3 1 8 := ⟨Tryd.underlying22, by obtain ⟨i, h1, h2, h3, h4⟩ := info_parts int_infoJ; exact ⟨i, _, h1, h2, h3, h4, rfl⟩, by omega⟩
def noDefer (ops : Array Oper) : Bool := ops.toList.all fun o => match o.op with | .defer _ => false | _ => true
theorem noDefer_at {ops : Array Oper} (h : noDefer ops = true) : ∀ (j : Nat) (o : Oper), ops[j]? = some o → ∀ c, o.op ≠ .defer c := fun j o ho c e => by
  unfold noDefer at h
  rw [List.all_eq_true] at h
  have := h o (List.mem_of_getElem? (by rw [← Array.getElem?_toList] at ho; exact ho))
  rw [e] at this
  cases this
def PhiS (G mb : Nat) (Pv : Option Addr) (np cv r k : Nat) (i : Nat) (v : Value) (w : World) (X : Nat → Option Value) : Prop :=
  match i with
  | 0 => v = .map (some mb)
  | 1 => v = .func (.func 103) #[.pointer (some ⟨G, 0, none⟩)] #[]
  | 2 => v = .pointer (some ⟨G, 0, none⟩)
  | 3 => v = .pointer (some ⟨G, 0, none⟩)
  | 4 => v = .pointer (some ⟨G, 1, none⟩)
  | 5 => v = .slice Pv np cv
  | 6 => v = .int .i64 (np : Int)
  | 7 => v = .int .i64 (r : Int)
  | 8 => v = .int .i64 (k : Int)
  | _ => True
theorem phiS_st (G mb : Nat) (Pv : Option Addr) (np cv r k : Nat) : ∀ i v (w w' : World) X X', PhiS G mb Pv np cv r k i v w X → PhiS G mb Pv np cv r k i v w' X' := fun i v w w' X X' h => by
  match i, h with
  | 0, h => exact h
  | 1, h => exact h
  | 2, h => exact h
  | 3, h => exact h
  | 4, h => exact h
  | 5, h => exact h
  | 6, h => exact h
  | 7, h => exact h
  | 8, h => exact h
  | _ + 9, _ => exact trivial
def PhiD (G r0 n c0 np V m cV k : Nat) (Pd : Option Addr) (ld kd : Nat) (i : Nat) (v : Value) (w : World) (X : Nat → Option Value) : Prop :=
  match i with
  | 0 => v = .pointer (some ⟨G, 0, none⟩)
  | 1 => v = .pointer (some ⟨G, 0, none⟩)
  | 2 => v = .pointer (some ⟨G, 0, none⟩)
  | 3 => v = .pointer (some ⟨G, 0, none⟩)
  | 4 => v = .slice (some ⟨r0, 0, none⟩) n c0
  | 5 => v = .int .i64 (np : Int)
  | 6 => v = .pointer (some ⟨r0, np, none⟩)
  | 7 => v = .slice (some ⟨V, 0, none⟩) m cV
  | 8 => v = .int .i64 (k : Int)
  | 9 => v = .pointer (some ⟨V, (k * 3), none⟩)
  | 10 => v = .pointer (some ⟨V, (k * 3 + 1), none⟩)
  | 11 => v = .slice Pd ld kd
  | 12 => v = .pointer (some ⟨G, 0, none⟩)
  | 13 => v = .pointer (some ⟨G, 2, none⟩)
  | _ => True
theorem phiD_st (G r0 n c0 np V m cV k : Nat) (Pd : Option Addr) (ld kd : Nat) : ∀ i v (w w' : World) X X', PhiD G r0 n c0 np V m cV k Pd ld kd i v w X → PhiD G r0 n c0 np V m cV k Pd ld kd i v w' X' := fun i v w w' X X' h => by
  match i, h with
  | 0, h => exact h
  | 1, h => exact h
  | 2, h => exact h
  | 3, h => exact h
  | 4, h => exact h
  | 5, h => exact h
  | 6, h => exact h
  | 7, h => exact h
  | 8, h => exact h
  | 9, h => exact h
  | 10, h => exact h
  | 11, h => exact h
  | 12, h => exact h
  | 13, h => exact h
  | _ + 14, _ => exact trivial
def PhiP (G : Nat) (vp : Value) (hs : List Value) (k n0 base : Nat) (i : Nat) (v : Value) (w : World) (X : Nat → Option Value) : Prop :=
  match i with
  | 0 => v = .pointer (some ⟨G, 0, none⟩)
  | 1 => v = .pointer (some ⟨G, 0, none⟩)
  | 2 => v = .pointer (some ⟨G, 0, none⟩)
  | 3 => v = .pointer (some ⟨G, 1, none⟩)
  | 4 => v = vp
  | 5 => v = .int .i64 (k : Int)
  | 6 => NewRow w n0 3 [.int .i64 (k : Int)] v
  | 7 => (OwnS 1 3 IsVal w base (fun _ => False) v (hs ++ [.int .i64 (k : Int)]) ∧ (v.ownBlock = vp.ownBlock ∨ ∃ b, v.ownBlock = some b ∧ n0 ≤ b))
  | 8 => v = .pointer (some ⟨G, 0, none⟩)
  | 9 => v = .pointer (some ⟨G, 1, none⟩)
  | _ => True
def blkP (vp : Value) : Nat → Option Nat := fun k => match k with | 7 => vp.ownBlock | _ => none
theorem phiP_st {G : Nat} {vp : Value} {hs : List Value} {kk n0 base : Nat} (hb : ∀ b, vp.ownBlock = some b → b < n0) :
    ∀ i k v w w' X u, i ≠ k → X k = none → PhiP G vp hs kk n0 base i v w X → w.grownBy w' (blkP vp k) → PhiP G vp hs kk n0 base i v w' (updX X k u) := fun i k v w w' X u hik hX h hE => by
  have hbk : ∀ b, blkP vp k = some b → k = 7 ∧ vp.ownBlock = some b := fun b e => by
    unfold blkP at e
    split at e
    · exact ⟨rfl, e⟩
    · cases e
  match i, hik, h with
  | 0, _, h => exact h
  | 1, _, h => exact h
  | 2, _, h => exact h
  | 3, _, h => exact h
  | 4, _, h => exact h
  | 5, _, h => exact h
  | 6, _, h => exact NewRow.grown h hE fun b e => hb b (hbk b e).2
  | 7, hik, h => exact ⟨OwnS.grown IsVal.stb h.1 hE fun b e => absurd (hbk b e).1 (Ne.symm hik), h.2⟩
  | 8, _, h => exact h
  | 9, _, h => exact h
  | _ + 10, _, _ => exact trivial
structure GrW (w : World) (G r0 c0 n m : Nat) (s : RS) (S : Nat → Prop) (rb cp : Nat → Nat) (Pv D : Option Addr) (cv cd : Nat) : Prop where
  mat : MatW w S r0 rb cp n m s.A
  row : Row w G 110 [.slice (some ⟨r0, 0, none⟩) n c0, .slice Pv s.piv.length cv, .slice D (lim s.d).length cd]
  num : NumS w S (.slice D (lim s.d).length cd) s.d
  piv : IsS 1 IsVal w (Old w) (.slice Pv s.piv.length cv) (s.piv.map fun (k : Nat) => Value.int .i64 (k : Int))
  cap : n ≤ c0
def IsGr (w : World) (v : Value) (n m : Nat) (s : RS) : Prop := ∃ G r0 c0 S rb cp Pv D cv cd, v = .pointer (some ⟨G, 0, none⟩) ∧ GrW w G r0 c0 n m s S rb cp Pv D cv cd
theorem IsGr.next {w w' : World} {v : Value} {n m : Nat} {s : RS} (h : IsGr w v n m s) (hb : Below w.heap.size w w') : IsGr w' v n m s := by
  obtain ⟨G, r0, c0, S, rb, cp, Pv, D, cv, cd, rfl, h1, h2, h3, h4, h5⟩ := h
  exact ⟨G, r0, c0, S, rb, cp, Pv, D, cv, cd, rfl, h1.next hb (fun b h => h) (fun b h => .inl h), h2.next hb, IsK.stb.to h3 fun b hb' => ⟨hb', fun o => hb.cell (p := ⟨b, o, none⟩) (h1.sS b hb')⟩, (IsS.stb IsVal.stb).to h4 (zba hb), h5⟩
theorem InvR.gr {C : RC} {w : World} {s : RS} {S : Nat → Prop} {rb cp : Nat → Nat} {Pv D : Option Addr} {cv cd : Nat} (h : InvR C w s S rb cp Pv D cv cd) (ok : C.Ok) : IsGr w (.pointer (some ⟨C.G, 0, none⟩)) C.n C.m s :=
  ⟨_, _, _, _, _, _, _, _, _, _, rfl, h.mat, h.row, h.num, h.piv.isS IsVal.stb (fun b h => h.elim) (fun b _ h => h), ok.cap⟩
theorem results_slot {P : Program} {fn : Func} {t : Tmp} {tmps : Array Value} {w : World} {v : Value} (h : fn.results = #[.tmp t]) (hv : tmps.getD t undef = v) : (results fn tmps).run P w = .ok v w := by
  simp [results_tmp h, hv]
def PreP (base : Nat) (vp : Value) (hs : List Value) (i : Nat) (w : World) : Prop := i = 7 → OwnS 1 3 IsVal w base (fun _ => False) vp hs
end Go.Proofs.YtjkgdggkgljdoaaDoor
