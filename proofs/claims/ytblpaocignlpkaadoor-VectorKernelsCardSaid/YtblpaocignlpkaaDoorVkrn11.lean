/-
  Memory where one row at a time may change: what stays, and an append onto a row of one's own as one step of a region that draws its order.
-/
import Derived.Test.YtblpaocignlpkaaDoorVkrn09
import Derived.Test.YtblpaocignlpkaaDoorVkrn10
import Derived.Maps.AppendAt
import Derived.Test.YtblpaocignlpkaaDoorVkrn06
import Derived.Test.YtblpaocignlpkaaDoorVkrn07
namespace Go.Proofs.YtblpaocignlpkaaDoor
open Go.RowKit
set_option linter.unusedVariables false
theorem zan (w : World) (r : Option Nat) : w.grownBy w r := ⟨rfl, rfl, rfl, Nat.le_refl _, fun _ _ _ => rfl⟩
theorem zat {a b c : World} {r : Option Nat} (h : a.grownBy b r) (k : b.grownBy c r) : a.grownBy c r :=
  ⟨k.os.trans h.os, k.tape.trans h.tape, k.output.trans h.output, Nat.le_trans h.size k.size, fun j hj hr => (k.block j (Nat.lt_of_lt_of_le hj h.size) hr).trans (h.block j hj hr)⟩
theorem zef (w : World) (o : Obj) (r : Option Nat) : w.grownBy (w.alloc o) r := zbf (zbp w o)
theorem same_grownS {w w' : World} {r : Option Nat} {S : Nat → Prop} (hg : w.grownBy w' r) (hS : ∀ b, S b → b < w.heap.size ∧ some b ≠ r) : Same S S w w' := fun b hb => ⟨hb, fun o => World.cell?_of_block (hg.block b (hS b hb).1 (hS b hb).2)⟩
theorem OwnS.own_lt {α : Type} {n : Nat} {t : TypeId} {R : World → (Nat → Prop) → Value → α → Prop} {w : World} {base : Nat} {S : Nat → Prop} {v : Value} {l : List α} (h : OwnS n t R w base S v l) : ∀ b, v.ownBlock = some b → base ≤ b ∧ b < w.heap.size := by
  obtain ⟨es, h1, _⟩ := h
  exact fun b hb => h1.lt b hb
theorem OwnS.grown {α : Type} {n : Nat} {t : TypeId} {R : World → (Nat → Prop) → Value → α → Prop} (hR : Stb R) {w w' : World} {base : Nat} {S : Nat → Prop} {v : Value} {l : List α} {r : Option Nat} (h : OwnS n t R w base S v l)
    (hb : w.grownBy w' r) (hr : ∀ b, r = some b → v.ownBlock ≠ some b ∧ ¬ S b) : OwnS n t R w' base S v l := by
  obtain ⟨es, h1, h2, h3, h4⟩ := h
  have hne : v.ownBlock = none ∨ v.ownBlock ≠ r := by
    cases r with
    | none => cases v.ownBlock <;> simp
    | some b => exact .inr (hr b rfl).1
  refine ⟨es, h1.kept hb hne, h2, h3.imp fun x y h => hR.to h (same_grownS hb fun b hb' => ⟨(h4 b hb').1, fun e => (hr b e.symm).2 hb'⟩), fun b hb' => ⟨Nat.lt_of_lt_of_le (h4 b hb').1 hb.size, (h4 b hb').2⟩⟩
theorem OwnS.wider {α : Type} {n : Nat} {t : TypeId} {R : World → (Nat → Prop) → Value → α → Prop} (hR : Stb R) {w : World} {base : Nat} {S T : Nat → Prop} {v : Value} {l : List α} (h : OwnS n t R w base S v l)
    (hST : ∀ b, S b → T b) (hT : ∀ b, T b → b < w.heap.size ∧ some b ≠ v.ownBlock) : OwnS n t R w base T v l := by
  obtain ⟨es, h1, h2, h3, h4⟩ := h
  exact ⟨es, h1, h2, h3.imp fun x y h => hR.to h fun b hb => ⟨hST b hb, fun o => rfl⟩, hT⟩
theorem Row.grownN {w w' : World} {g : Nat} {t : TypeId} {xs : List Value} {r : Option Nat} (h : Row w g t xs) (hb : w.grownBy w' r) (hr : ∀ b, r = some b → g ≠ b) : Row w' g t xs := h.grown hb (fun e => hr g e.symm rfl)
theorem IsD.grownN {w w' : World} {g : Nat} {l : List Int} {r : Option Nat} (h : IsD w g l) (hb : w.grownBy w' r) (hr : ∀ b, r = some b → g < b) : IsD w' g l := by
  cases r with
  | none =>
    have hl := h.lt
    obtain ⟨A, c, k, h1, h2, h3⟩ := h
    exact ⟨A, c, k, h1.grown hb (by simp), IsIL.stb.to h2 (same_grownS hb fun b hb' => ⟨by omega, by simp⟩), h3⟩
  | some b => exact h.grown hb (hr b rfl)
structure Kept (r1 r2 r3 : Option Nat) (w w' : World) : Prop where
  os : w'.os = w.os
  tape : w'.tape = w.tape
  output : w'.output = w.output
  size : w.heap.size ≤ w'.heap.size
  block : ∀ k, k < w.heap.size → some k ≠ r1 → some k ≠ r2 → some k ≠ r3 → w'.heap[k]? = w.heap[k]?
theorem Kept.refl (r1 r2 r3 : Option Nat) (w : World) : Kept r1 r2 r3 w w := ⟨rfl, rfl, rfl, Nat.le_refl _, fun _ _ _ _ _ => rfl⟩
theorem Kept.step {r1 r2 r3 : Option Nat} {a b c : World} {r : Option Nat} (h : Kept r1 r2 r3 a b) (k : b.grownBy c r) (hr : r = none ∨ r = r1 ∨ r = r2 ∨ r = r3) : Kept r1 r2 r3 a c :=
  ⟨k.os.trans h.os, k.tape.trans h.tape, k.output.trans h.output, Nat.le_trans h.size k.size, fun j hj n1 n2 n3 => (k.block j (Nat.lt_of_lt_of_le hj h.size) (by rcases hr with rfl | rfl | rfl | rfl; simp; exact n1; exact n2; exact n3)).trans (h.block j hj n1 n2 n3)⟩
theorem step_appG {P : Program} {w : World} {o : Oper} {a : Act} {K : Act → World → Prop} {Q : Exit → Act → World → Prop} {t e : TypeId} {n bytes : Nat} (El : ElN P t e n bytes) (s x : Operand) (ho : o.op = .call { callee := .builtin .append, args := #[s, x], argTypes := #[t, t] })
    {α : Type} {R : World → (Nat → Prop) → Value → α → Prop} (hR : Stb R) {base h : Nat} {S : Nat → Prop} {v ev : Value} {l : List α} {y : α} {te : TypeId}
    (hs : a.eval s = v) (hx : a.eval x = .slice (some ⟨h, 0, none⟩) 1 1) (hr : Row w h te ev.cells.toList) (hown : OwnS n e R w base S v l) (he : R w S ev y) (hn : ev.cells.size = n)
    (h1 : ∀ u ∈ ev.cells, u.oneCell' = true) (hb : (l.length + 1) * (bytes + 1) ≤ 140737488355328) (hbase : base ≤ w.heap.size)
    (hK : ∀ v' w', OwnS n e R w' base S v' (l ++ [y]) → w.grownBy w' v.ownBlock → (v'.ownBlock = v.ownBlock ∨ v'.ownBlock = some w.heap.size) → K (a.put o.dst v') w') : o.wp P a w K Q := by
  obtain ⟨i, z, hi, hz, hsz, hby, hzc⟩ := El.info
  obtain ⟨es, h1', h2, h3, h4⟩ := hown
  rw [Nat.mul_add, Nat.mul_one] at hb
  obtain ⟨v', w', hrun, g1, g2, _, g4⟩ := run_append_own_at (P := P) w base t o.type e i z n bytes El.und hi hz hsz hby hzc El.pos v l.length (cellsOf es) h1' ⟨h, 0, none⟩ 1 1 ev.cells.toList (by simp [hn])
    (fun j u hu => by rw [Addr.add_lit, Nat.zero_add, hr.cell j]; exact hu) (by simpa using h1) (by unfold maxLen; omega) (by omega) hbase
  unfold Oper.wp execOp
  simp only [ho, resolve, invoke, builtin, Sem.run_bind, Sem.run_pure, Result.andThen_ok, List.map_toArray, List.map_cons, List.map_nil, hs, hx, hrun]
  exact hK v' w' (OwnS.app hR h2 h3 h4 he hn g1 g2 g4) g2 g4
def NewRow (w : World) (n0 : Nat) (t : TypeId) (xs : List Value) (v : Value) : Prop := ∃ h, v = .slice (some ⟨h, 0, none⟩) 1 1 ∧ n0 ≤ h ∧ Row w h t xs
theorem NewRow.grown {w w' : World} {n0 : Nat} {t : TypeId} {xs : List Value} {v : Value} {r : Option Nat} (h : NewRow w n0 t xs v) (hb : w.grownBy w' r) (hr : ∀ b, r = some b → b < n0) : NewRow w' n0 t xs v := by
  obtain ⟨g, e, h1, h2⟩ := h
  exact ⟨g, e, h1, h2.grownN hb fun b e => by have := hr b e; omega⟩
theorem zfg {T : Array Value} {t : Nat} {v : Value} (h : T[t]? = some v) : T.getD t undef = v := by simp [Array.getD_eq_getD_getElem?, h]
theorem Row.kept {w w' : World} {g : Nat} {t : TypeId} {xs : List Value} {r1 r2 r3 : Option Nat} (h : Row w g t xs) (k : Kept r1 r2 r3 w w') (h1 : r1 ≠ some g) (h2 : r2 ≠ some g) (h3 : r3 ≠ some g) : Row w' g t xs := (k.block g h.lt (Ne.symm h1) (Ne.symm h2) (Ne.symm h3)).trans h
theorem zcy {w w' : World} {g n : Nat} (h : w.grownBy w' (some g)) (hn : w.heap.size ≤ n) (o : Nat) (u : Value) : w.grownBy (w'.setCell ⟨n, o, none⟩ u) (some g) :=
  ⟨h.os, h.tape, h.output, by rw [show (w'.setCell ⟨n, o, none⟩ u).heap.size = w'.heap.size by simp [World.setCell]]; exact h.size, fun k hk hr => (Below.heap_setCell w' ⟨n, o, none⟩ u k (fun e => by have : n = k := e.symm; omega)).trans (h.block k hk hr)⟩
theorem run_cloneS {P : Program} {w : World} {t e : TypeId} {n bytes : Nat} (E : ElN P t e n bytes) (ty : TypeId) {α : Type} {R : World → (Nat → Prop) → Value → α → Prop} (hR : Stb R) {S : Nat → Prop} {v : Value} {l : List α} (hv : IsS n R w S v l) (hl : l ≠ [])
    (hS : ∀ b, S b → b < w.heap.size) (h1 : ∀ e x, R w S e x → ∀ u ∈ e.cells, u.oneCell' = true) (hb : l.length * (bytes + 1) ≤ 140737488355328) {base : Nat} (hbase : base ≤ w.heap.size) :
    ∃ v' w', (Builtin.append_ #[t, t] ty #[.slice none 0 0, v]).run P w = .ok v' w' ∧ OwnS n e R w' base S v' l ∧ w.grownBy w' none ∧ (∀ b, v'.ownBlock = some b → w.heap.size ≤ b) := by
  obtain ⟨i, z, hi, hz, hsz, hby, hzc⟩ := E.info
  obtain ⟨A, c, es, rfl, hc1, hc2, h3, h4, h5⟩ := hv
  have hes : es ≠ [] := fun e => hl (List.eq_nil_of_length_eq_zero (by rw [← h5.1, e]; rfl))
  have hlen := cellsOf_length h4
  have hne : cellsOf es ≠ [] := fun e => by
    rw [e] at hlen
    have h6 : 0 < es.length := Nat.pos_of_ne_zero fun h => hes (List.eq_nil_of_length_eq_zero h)
    have := Nat.mul_pos h6 E.pos
    simp at hlen
    omega
  obtain ⟨b, off, rfl, hSb, hcell⟩ := h3 hne
  rw [Nat.mul_add, Nat.mul_one] at hb
  obtain ⟨es0, g1, _⟩ := OwnS.nil (α := α) (n := n) (t := e) (R := R) (w := w) (base := base) (S := fun _ => False) (fun b h => h.elim)
  have ec : cellsOf es0 = [] := by
    have := g1.1
    simpa using this
  rw [ec] at g1
  obtain ⟨v', w', hrun, k1, k2, _, k4⟩ := run_append_own_at (P := P) w base t ty e i z n bytes E.und hi hz hsz hby hzc E.pos (.slice none 0 0) 0 [] g1 ⟨b, off, none⟩ l.length c (cellsOf es)
    (by rw [hlen, h5.1]) (fun j u hu => by rw [Addr.add_lit]; exact hcell j u hu) (fun u hu => by
      unfold cellsOf at hu
      obtain ⟨x, hx, hu⟩ := List.mem_flatMap.1 hu
      obtain ⟨j, hj⟩ := List.getElem?_of_mem hx
      obtain ⟨y, hy⟩ : ∃ y, l[j]? = some y := ⟨_, List.getElem?_eq_getElem (by rw [← h5.1]; exact (List.getElem?_eq_some_iff.1 hj).1)⟩
      exact h1 _ _ (h5.2 j _ _ hj hy) u (by simpa using hu)) (by unfold maxLen; omega) (by rw [Nat.zero_add]; omega) hbase
  have k2' : w.grownBy w' none := by simpa [Value.ownBlock] using k2
  have ho : ∀ b, v'.ownBlock = some b → w.heap.size ≤ b := fun b hb => by
    rcases k4 with k | k
    · rw [k] at hb; cases hb
    · rw [k] at hb; cases hb; exact Nat.le_refl _
  refine ⟨v', w', hrun, ⟨es, ?_, h4, h5.imp fun x y h => hR.to h (same_grownS k2' fun b hb => ⟨hS b hb, by simp⟩), fun b hb => ⟨Nat.lt_of_lt_of_le (hS b hb) k2'.size, fun e => ?_⟩⟩, k2', ho⟩
  · rw [Nat.zero_add, List.nil_append] at k1
    exact k1
  · have := ho b e.symm
    have := hS b hb
    omega
theorem step_cloneG {P : Program} {w : World} {o : Oper} {a : Act} {K : Act → World → Prop} {Q : Exit → Act → World → Prop} {t e : TypeId} {n bytes : Nat} (E : ElN P t e n bytes) (s x : Operand) (ho : o.op = .call { callee := .builtin .append, args := #[s, x], argTypes := #[t, t] })
    {α : Type} {R : World → (Nat → Prop) → Value → α → Prop} (hR : Stb R) {S : Nat → Prop} {v : Value} {l : List α} (hs : a.eval s = .slice none 0 0) (hx : a.eval x = v) (hv : IsS n R w S v l) (hl : l ≠ [])
    (hS : ∀ b, S b → b < w.heap.size) (h1 : ∀ e x, R w S e x → ∀ u ∈ e.cells, u.oneCell' = true) (hb : l.length * (bytes + 1) ≤ 140737488355328) {base : Nat} (hbase : base ≤ w.heap.size)
    (hK : ∀ v' w', OwnS n e R w' base S v' l → w.grownBy w' none → (∀ b, v'.ownBlock = some b → w.heap.size ≤ b) → K (a.put o.dst v') w') : o.wp P a w K Q := by
  obtain ⟨v', w', hrun, g1, g2, g3⟩ := run_cloneS (P := P) (w := w) E o.type hR hv hl hS h1 hb hbase
  unfold Oper.wp execOp
  simp only [ho, resolve, invoke, builtin, Sem.run_bind, Sem.run_pure, Result.andThen_ok, List.map_toArray, List.map_cons, List.map_nil, hs, hx, hrun]
  exact hK v' w' g1 g2 g3
theorem wp_cloneS {P : Program} {w : World} {ops : Array Oper} {rest : List Oper} {o : Oper} {a : Act} {Q : Exit → Act → World → Prop} {t e : TypeId} {n bytes : Nat} (E : ElN P t e n bytes) (hgd : o.guard = none) (s x : Operand) (ho : o.op = .call { callee := .builtin .append, args := #[s, x], argTypes := #[t, t] })
    {α : Type} {R : World → (Nat → Prop) → Value → α → Prop} (hR : Stb R) {S : Nat → Prop} {v : Value} {l : List α} (hs : a.eval s = .slice none 0 0) (hx : a.eval x = v) (hv : IsS n R w S v l) (hl : l ≠ [])
    (hS : ∀ b, S b → b < w.heap.size) (h1 : ∀ e x, R w S e x → ∀ u ∈ e.cells, u.oneCell' = true) (hb : l.length * (bytes + 1) ≤ 140737488355328) {base : Nat} (hbase : base ≤ w.heap.size)
    (h : ∀ v' w', OwnS n e R w' base S v' l → Below w.heap.size w w' → wpList P ops Q rest (a.put o.dst v') w') : wpList P ops Q (o :: rest) a w :=
  wpList_plain hgd fun K hK => step_cloneG E s x ho hR hs hx hv hl hS h1 hb hbase fun v' w' g1 g2 _ => hK _ _ (h v' w' g1 ((Below.refl _ w).grown g2 (Nat.le_refl _) (fun k e => by cases e)))
theorem isR_one {w : World} {S : Nat → Prop} {e : Value} {x : Raw} (h : IsR w S e x) : ∀ u ∈ e.cells, u.oneCell' = true := by
  obtain ⟨A, c, B, d, rfl, _, _⟩ := h
  intro u hu
  simp [Value.cells] at hu
  rcases hu with rfl | rfl | rfl <;> rfl
end Go.Proofs.YtblpaocignlpkaaDoor
namespace Go.Proofs.YtblpaocignlpkaaDoor
open Go.RowKit Go.Shelf
attribute [local go_sem] Oper.semAt_some
set_option linter.unusedVariables false
def SideOk (w : World) (n : Nat) (p : (S3 × List Rat) × (Q3 × Rat)) : Prop := IsV w (Old w) (.slice p.1.1.1 p.1.1.2.1 p.1.1.2.2) (rawV p.1.2) ∧ p.1.2.length = n ∧ IsQ w (Old w) (q3 p.2.1) p.2.2 ∧ (∀ q ∈ p.1.2, Sz q 1024) ∧ Sz p.2.2 1024
abbrev Side (w : World) (n : Nat) := {p : (S3 × List Rat) × (Q3 × Rat) // SideOk w n p}
def Side.qs {w : World} {n : Nat} (x : Side w n) : List Rat × Rat := (x.1.1.2, x.1.2.2)
end Go.Proofs.YtblpaocignlpkaaDoor
namespace Go.Proofs.YtblpaocignlpkaaDoor
open Go.RowKit
set_option linter.unusedVariables false
def bndV (v : Value) (l : List Rat) : Ending := .returned (.tuple #[if l.all fitsQ then v else .slice none 0 0, .int .i64 (if l.all fitsQ then 0 else 5)])
theorem all_take {α : Type} {l : List α} {p : α → Bool} {k : Nat} {x : α} (h : (l.take k).all p = true) (hx : l[k]? = some x) (hp : p x = true) : (l.take (k + 1)).all p = true := by
  rw [zeu hx, List.all_append, h]
  simp [hp]
theorem all_not {α : Type} {l : List α} {p : α → Bool} {k : Nat} {x : α} (hx : l[k]? = some x) (hp : p x = false) : l.all p = false := by
  cases h : l.all p with
  | false => rfl
  | true => rw [List.all_eq_true] at h; rw [h x (List.mem_of_getElem? hx)] at hp; cases hp
set_option maxHeartbeats 2000000 in
theorem bounded_l {w : World} {v : Value} {l : List Rat} (h : IsV w (Old w) v (rawV l)) : Calls Tryd.prog 77 #[v] w fun e w' => e = bndV v l ∧ Below w.heap.size w w' := by
  have H := Lib.hid h
  obtain ⟨A, c, rfl, hl⟩ := zcb h
  obtain ⟨n, hn⟩ : ∃ n, n = l.length := ⟨_, rfl⟩
  have el : (rawV l).length = n := by simp [rawV, hn]
  rw [el] at hl H ⊢
  have Hn := Lib.hid hn
  clear h el hn
  go_enter Tryd.func77, Tryd.ntmps77
  go_wp2_with fail
  go_loopw [8, 5] (fun i _ wr => ∃ k : Nat, k ≤ n ∧ i = .int .i64 (k : Int) ∧ Below w.heap.size w wr ∧ Hid ((l.take k).all fitsQ = true)) (fun i _ _ => n - (intOf i).toNat)
  case atStart => exact ⟨0, Nat.zero_le _, rfl, Below.refl _ _, by simp [Hid]⟩
  case round =>
    obtain ⟨k, hk, rfl, hbw, hall⟩ := hrel
    have HW := Lib.hid hbw
    rcases Nat.lt_or_ge k n with hlt | hge
    · obtain ⟨x, hx, hrx⟩ := zfd (l := l) (j := k) (by rw [← Hn.out]; exact hlt)
      obtain ⟨b1, o1, X1, X2, X3, X4, rfl, hSb1, helx, c0, c1, c2⟩ := zcs H.out hrx
      obtain ⟨x0, hx0⟩ : ∃ s, s = (raw x).neg := ⟨_, rfl⟩
      obtain ⟨x1, hx1⟩ : ∃ s, s = (raw x).num.length := ⟨_, rfl⟩
      obtain ⟨x2, hx2⟩ : ∃ s, s = (raw x).den.length := ⟨_, rfl⟩
      rw [← hx0] at c0
      rw [← hx1] at c1
      rw [← hx2] at c2
      rw [← hx0, ← hx1, ← hx2] at helx
      replace c0 := hbw.cell (p := ⟨b1, o1 + k * 3, none⟩) hSb1 |>.trans c0
      replace c1 := hbw.cell (p := ⟨b1, o1 + k * 3 + 1, none⟩) hSb1 |>.trans c1
      replace c2 := hbw.cell (p := ⟨b1, o1 + k * 3 + 2, none⟩) hSb1 |>.trans c2
      have Qx := Lib.hid (IsQ.stb.to (isR_isQ helx) (zax hbw))
      have Hx := Lib.hid hx
      have cr := zbn
      obtain ⟨f, hf⟩ : ∃ f, f = fitsQ x := ⟨_, rfl⟩
      have Hf := Lib.hid hf
      obtain ⟨wx, hwx, hbx, rE, Hzx⟩ := zch wr #[.bool x0, .slice X1 x1 X2, .slice X3 x2 X4] 50
      have RE := Lib.hid rE
      have HBX := Lib.hid (zaa HW.out hbx)
      have QX := Lib.hid (IsQ.stb.next Qx.out hbx)
      obtain ⟨g0, g1, g2⟩ := zad rE
      clear hx hrx helx hx0 hx1 hx2 hSb1 hf rE hbx hbw
      cases f with
      | true =>
        go_wp2_with fail
        refine (fits_q QX.out).mono ?_
        rw [← Hf.out]
        rintro e w2 ⟨rfl, hb2⟩
        have HB2 := Lib.hid (zaa HBX.out hb2)
        clear hb2 g0 g1 g2 c0 c1 c2
        go_wp2_with fail
        go_roundw
        case rel => exact ⟨k + 1, hlt, by go_num, HB2.out, all_take hall.out Hx.out Hf.out.symm⟩
        case measure => simp [intOf]; omega
      | false =>
        go_wp2_with fail
        refine (fits_q QX.out).mono ?_
        rw [← Hf.out]
        rintro e w2 ⟨rfl, hb2⟩
        have HB2 := Lib.hid (zaa HBX.out hb2)
        clear hb2 g0 g1 g2 c0 c1 c2
        go_wp2_with fail
        go_ret2
        exact ⟨by rw [bndV, all_not Hx.out Hf.out.symm]; rfl, HB2.out⟩
    · obtain rfl : k = n := by omega
      have hlt : ¬ k < k := by omega
      go_wp2_with fail
      go_ret2
      refine ⟨?_, HW.out⟩
      have h := hall.out
      rw [List.take_of_length_le (by rw [← Hn.out]; exact Nat.le_refl _)] at h
      rw [bndV, h]
      rfl
def bndM (v : Value) (m : List (List Rat)) : Ending := .returned (.tuple #[if m.all (fun l => l.all fitsQ) then v else .slice none 0 0, .int .i64 (if m.all (fun l => l.all fitsQ) then 0 else 5)])
set_option maxHeartbeats 2000000 in
theorem boundedRows_l {w : World} {v : Value} {m : List (List Rat)} (h : IsM w (Old w) v (rawM m)) : Calls Tryd.prog 69 #[v] w fun e w' => e = bndM v m ∧ Below w.heap.size w w' := by
  have H := Lib.hid h
  obtain ⟨A, c, rfl, hl⟩ := zdk h
  obtain ⟨n, hn⟩ : ∃ n, n = m.length := ⟨_, rfl⟩
  have el : (rawM m).length = n := by simp [rawM, hn]
  rw [el] at hl H ⊢
  have Hn := Lib.hid hn
  clear h el hn
  go_enter Tryd.func69, Tryd.ntmps69
  go_wp2_with fail
  go_loopw [10, 5, 6, 7] (fun i _ _ _ wr => ∃ k : Nat, k ≤ n ∧ i = .int .i64 (k : Int) ∧ Below w.heap.size w wr ∧ Hid ((m.take k).all (fun l => l.all fitsQ) = true)) (fun i _ _ _ _ => n - (intOf i).toNat)
  case atStart => exact ⟨0, Nat.zero_le _, rfl, Below.refl _ _, by simp [Hid]⟩
  case round =>
    obtain ⟨k, hk, rfl, hbw, hall⟩ := hrel
    have HW := Lib.hid hbw
    rcases Nat.lt_or_ge k n with hlt | hge
    · obtain ⟨r, hr⟩ : ∃ r, m[k]? = some r := ⟨_, List.getElem?_eq_getElem (by rw [← Hn.out]; exact hlt)⟩
      have hrr : (rawM m)[k]? = some (rawV r) := by rw [rawM, List.getElem?_map, hr]; rfl
      obtain ⟨b, o, Y1, Y2, rfl, hSb, hely, c0⟩ := zcj H.out hrr
      replace c0 := hbw.cell (p := ⟨b, o + k, none⟩) hSb |>.trans c0
      have VY := Lib.hid (IsV.stb.to hely (zax hbw))
      obtain ⟨n1, hn1⟩ : ∃ z, z = (rawV r).length := ⟨_, rfl⟩
      rw [← hn1] at c0 VY
      have Hr := Lib.hid hr
      obtain ⟨f, hf⟩ : ∃ f, f = r.all fitsQ := ⟨_, rfl⟩
      have Hf := Lib.hid hf
      clear hr hrr hely hSb hbw hf hn1
      cases f with
      | true =>
        go_wp2_with fail
        refine (bounded_l VY.out).mono ?_
        rw [bndV, ← Hf.out]
        rintro e w2 ⟨rfl, hb2⟩
        have HB2 := Lib.hid (zaa HW.out hb2)
        clear hb2 c0
        go_wp2_with fail
        go_roundw
        case rel => exact ⟨k + 1, hlt, by go_num, HB2.out, all_take hall.out Hr.out Hf.out.symm⟩
        case measure => simp [intOf]; omega
      | false =>
        go_wp2_with fail
        refine (bounded_l VY.out).mono ?_
        rw [bndV, ← Hf.out]
        rintro e w2 ⟨rfl, hb2⟩
        have HB2 := Lib.hid (zaa HW.out hb2)
        clear hb2 c0
        go_wp2_with fail
        go_ret2
        exact ⟨by rw [bndM, all_not (p := fun l => l.all fitsQ) Hr.out Hf.out.symm]; rfl, HB2.out⟩
    · obtain rfl : k = n := by omega
      have hlt : ¬ k < k := by omega
      go_wp2_with fail
      go_ret2
      refine ⟨?_, HW.out⟩
      have h := hall.out
      rw [List.take_of_length_le (by rw [← Hn.out]; exact Nat.le_refl _)] at h
      rw [bndM, h]
      rfl
theorem raw_int (z : Int) : raw (z : Rat) = ⟨decide (z < 0), lim z.natAbs, lim 1⟩ := by
  unfold raw
  rw [Rat.num_intCast, Rat.den_intCast]
theorem raw_nat (n : Nat) : raw (((n : Nat) : Int) : Rat) = ⟨false, lim n, lim 1⟩ := by
  rw [raw_int, Int.natAbs_natCast]
  have : ¬ ((n : Int) < 0) := by omega
  simp [this]
theorem isN_slice {w : World} {v : Value} {n : Nat} (h : IsN w 0 w.heap.size v n) : ∃ A c, v = .slice A (lim n).length c ∧ (lim n).length ≤ 9223372036854775807 := by
  have hl := h.length_le
  obtain ⟨A, c, rfl, _⟩ := h
  exact ⟨A, c, rfl, by unfold maxLen at hl; omega⟩
theorem boxes5 (w : World) (c1 c2 c3 c4 c5 : Array Value) (t1 t2 t3 t4 t5 : TypeId) : ∃ w0, ((((w.alloc (.cells c1 t1)).alloc (.cells c2 t2)).alloc (.cells c3 t3)).alloc (.cells c4 t4)).alloc (.cells c5 t5) = w0 ∧ Below w.heap.size w w0 ∧ Row w0 w.heap.size t1 c1.toList ∧ Row w0 (w.heap.size + 1) t2 c2.toList ∧
    Row w0 (w.heap.size + 2) t3 c3.toList ∧ Row w0 (w.heap.size + 3) t4 c4.toList ∧ Row w0 (w.heap.size + 4) t5 c5.toList ∧ Hid (w0.heap.size = w.heap.size + 5) := by
  obtain ⟨w1, rfl, h1, h2, h3, h4, h5⟩ := zfp w c1 c2 c3 t1 t2 t3
  obtain ⟨w2, rfl, k1, k2, k3, k4⟩ := zep ((((w.alloc (.cells c1 t1)).alloc (.cells c2 t2)).alloc (.cells c3 t3))) c4 c5 t4 t5
  rw [h5.out] at k2 k3 k4
  exact ⟨_, rfl, zaa h1 k1, h2.next k1, h3.next k1, h4.next k1, k2, k3, k4⟩
set_option maxHeartbeats 400000 in
theorem whole_f {w : World} {v : Value} {n : Nat} (h : IsN w 0 w.heap.size v n) (hn : (lim n).length ≤ 4294967296) : Calls Tryd.prog 71 #[.bool false, v] w (RetQ w (((n : Nat) : Int) : Rat)) := by
  have HN := Lib.hid h
  obtain ⟨A, c, rfl, hl⟩ := isN_slice h
  have Hn := Lib.hid hn
  clear h hn
  obtain ⟨w0, hw0, hb0, rZ, Hz⟩ := zch w #[.bool false, .slice none 0 0, .slice none 0 0] 50
  have Z_0 := Lib.hid (rZ)
  have bw_0 := Lib.hid (hb0)
  have sz_0 : Hid (w.heap.size + 1 ≤ w0.heap.size) := Lib.hid (Nat.le_of_eq Hz.out.symm)
  clear rZ hb0
  obtain ⟨cZ0_1, cZ1_1, cZ2_1⟩ := zad Z_0.out
  obtain ⟨fZ0_1, fZ1_1, fZ2_1⟩ := zaq Z_0.out
  have N_0 := Lib.hid (IsN.next HN.out bw_0.out)
  go_enter Tryd.func71, Tryd.ntmps71
  go_wp2_with fail
  clear hw0
  refine (copy_n N_0.out Hn.out).mono ?_
  rintro e w1 ⟨⟨v1, rfl, hv1⟩, hb⟩
  have newV1 := Lib.hid (zba hv1 sz_0.out)
  have Z_1 := Lib.hid (Row.next Z_0.out (hb))
  have bw_1 := Lib.hid (zaa bw_0.out (hb))
  have sz_1 := Lib.hid (zai sz_0.out (hb))
  have N_1 := Lib.hid (IsN.next N_0.out (hb))
  clear Z_0 bw_0 sz_0 N_0
  have V1_0 := newV1
  clear newV1
  obtain ⟨P1, k1, rfl, _, _, _⟩ := id hv1
  clear cZ0_1 cZ1_1 cZ2_1 fZ0_1 fZ1_1 fZ2_1
  obtain ⟨cZ0_2, cZ1_2, cZ2_2⟩ := zad Z_1.out
  obtain ⟨fZ0_2, fZ1_2, fZ2_2⟩ := zaq Z_1.out
  go_wp2_with fail
  refine (one_n _).mono ?_
  rintro e w2 ⟨⟨v2, rfl, hv2⟩, hb⟩
  have newV2 := Lib.hid (zba hv2 sz_1.out)
  have Z_2 := Lib.hid (Row.next Z_1.out (hb))
  have bw_2 := Lib.hid (zaa bw_1.out (hb))
  have sz_2 := Lib.hid (zai sz_1.out (hb))
  have N_2 := Lib.hid (IsN.next N_1.out (hb))
  have V1_1 := Lib.hid (IsK.stb.fresh V1_0.out (hb))
  clear Z_1 bw_1 sz_1 N_1 V1_0
  have V2_0 := newV2
  clear newV2
  obtain ⟨P2, k2, rfl, _, _, _⟩ := id hv2
  clear cZ0_2 cZ1_2 cZ2_2 fZ0_2 fZ1_2 fZ2_2
  obtain ⟨cZ0_3, cZ1_3, cZ2_3⟩ := zad Z_2.out
  obtain ⟨fZ0_3, fZ1_3, fZ2_3⟩ := zaq Z_2.out
  go_wp2_with fail
  refine zbb Tryd.results71 rfl rfl (Row.put3 Z_2.out _ _ _) (retQ (raw_nat n) bw_2.out (by omega) V1_1.out V2_0.out (by omega) (by omega))
theorem raw_lift {q : Rat} {n : Nat} (h : 0 < n / q.den) : raw ((q.num * ((n / q.den : Nat) : Int) : Int) : Rat) = ⟨decide (q.num < 0), lim (q.num.natAbs * (n / q.den)), lim 1⟩ := by
  rw [raw_int, Int.natAbs_mul, Int.natAbs_natCast]
  congr 1
  rw [decide_eq_decide]
  have h1 : (0 : Int) < ((n / q.den : Nat) : Int) := by omega
  constructor
  · intro h2
    rcases Int.lt_or_le q.num 0 with h3 | h3
    · exact h3
    · have := Int.mul_nonneg h3 (Int.le_of_lt h1)
      omega
  · exact fun h2 => Int.mul_neg_of_neg_of_pos h2 h1
set_option maxHeartbeats 1000000 in
theorem lift_q {w : World} {va vn : Value} {q : Rat} {n : Nat} (h : IsQ w (Old w) va q) (hn : IsN w 0 w.heap.size vn n) (hs : Sz q 100000) (hl : (lim n).length ≤ 1000000) (h0 : 0 < n / q.den) : Calls Tryd.prog 102 #[va, vn] w (RetQ w ((q.num * ((n / q.den : Nat) : Int) : Int) : Rat)) := by
  have HQa := Lib.hid h
  obtain ⟨nega, Aa, cAa, Ba, cBa, rfl, Hnega, Hna, Hda⟩ := zam h
  have HN := Lib.hid hn
  obtain ⟨C, cn, rfl, hln⟩ := isN_slice hn
  have Hs := Lib.hid hs
  have Hl := Lib.hid hl
  have Hr : Hid (raw ((q.num * ((n / q.den : Nat) : Int) : Int) : Rat) = ⟨nega, lim (q.num.natAbs * (n / q.den)), lim 1⟩) := by rw [Hid, Hnega.out]; exact raw_lift h0
  have Hd0 : Hid (0 < q.den) := q.den_pos
  clear h hn hs hl h0
  obtain ⟨w0, hw0, hb0, ra, rZ, Hz⟩ := zep w #[.bool nega, .slice Aa (lim q.num.natAbs).length cAa, .slice Ba (lim q.den).length cBa] #[.bool false, .slice none 0 0, .slice none 0 0] 50 50
  have Qa_0 := Lib.hid (IsQ.stb.next HQa.out hb0)
  have Ra_0 := Lib.hid (ra)
  have Z_0 := Lib.hid (rZ)
  have bw_0 := Lib.hid (hb0)
  have sz_0 : Hid (w.heap.size + 2 ≤ w0.heap.size) := Lib.hid (Nat.le_of_eq Hz.out.symm)
  clear ra rZ hb0
  obtain ⟨cRa0_1, cRa1_1, cRa2_1⟩ := zad Ra_0.out
  obtain ⟨cZ0_2, cZ1_2, cZ2_2⟩ := zad Z_0.out
  obtain ⟨fZ0_2, fZ1_2, fZ2_2⟩ := zaq Z_0.out
  have N_0 := Lib.hid (IsN.next HN.out bw_0.out)
  go_enter Tryd.func102, Tryd.ntmps102
  go_wp2_with fail
  clear hw0
  have Qa_1 := Lib.hid (IsQ.stb.next Qa_0.out (zac _))
  have Ra_1 := Lib.hid (Row.next Ra_0.out (zac _))
  have Z_1 := Lib.hid (Row.next Z_0.out (zac _))
  have bw_1 := Lib.hid (zaa bw_0.out (zac _))
  have sz_1 := Lib.hid (zai sz_0.out (zac _))
  have N_1 := Lib.hid (IsN.next N_0.out (zac _))
  clear Qa_0 Ra_0 Z_0 bw_0 sz_0 N_0
  go_region_held3 (fun w' => w'.cell? ⟨w.heap.size, 0, none⟩ = some (.bool nega) ∧ w'.cell? ⟨w.heap.size, 1, none⟩ = some (.slice Aa (lim q.num.natAbs).length cAa) ∧ w'.cell? ⟨w.heap.size, 2, none⟩ = some (.slice Ba (lim q.den).length cBa))
    (first
      | exact ⟨cRa0_1, cRa1_1, cRa2_1⟩
      | exact ⟨cRa0_3, cRa1_3, cRa2_3⟩
      | exact ⟨cRa0_5, cRa1_5, cRa2_5⟩
      | exact ⟨cRa0_7, cRa1_7, cRa2_7⟩
      | exact ⟨zap cRa0_7 (by omega), zap cRa1_7 (by omega), zap cRa2_7 (by omega)⟩)
    (first
      | (go_at_call 119; have hc := zcz (isN_old N_1.out) (zak (zck Qa_1.out)) (Nat.le_trans Hl.out (by omega)) (Nat.le_trans Hs.out.2 (by omega)) Hd0.out; (with_reducible refine hc.mono ?_); clear hc; rintro e w1 ⟨⟨v1, rfl, hv1⟩, hb⟩; have newE1 := Lib.hid (hv1); have Qa_2 := Lib.hid (IsQ.stb.next Qa_1.out (hb)); have Ra_2 := Lib.hid (Row.next Ra_1.out (hb)); have Z_2 := Lib.hid (Row.next Z_1.out (hb)); have bw_2 := Lib.hid (zaa bw_1.out (hb)); have sz_2 := Lib.hid (zai sz_1.out (hb)); have N_2 := Lib.hid (IsN.next N_1.out (hb)); clear Qa_1 Ra_1 Z_1 bw_1 sz_1 N_1; have E1_0 := newE1; clear newE1; obtain ⟨P1, k1, rfl, _, _, _⟩ := id hv1; clear cRa0_1 cRa1_1 cRa2_1 cZ0_2 cZ1_2 cZ2_2 fZ0_2 fZ1_2 fZ2_2; obtain ⟨cRa0_3, cRa1_3, cRa2_3⟩ := zad Ra_2.out; obtain ⟨cZ0_4, cZ1_4, cZ2_4⟩ := zad Z_2.out; obtain ⟨fZ0_4, fZ1_4, fZ2_4⟩ := zaq Z_2.out)
      | (go_at_call 97; have hc := mul_n (zak (zcv Qa_2.out)) (zak E1_0.out) (Nat.le_refl _) (Nat.le_refl _) (Nat.le_trans Hs.out.1 (by omega)) (Nat.le_trans (zds Hl.out) (by omega)); (with_reducible refine hc.mono ?_); clear hc; rintro e w2 ⟨⟨v2, rfl, hv2⟩, hb⟩; have newV1 := Lib.hid (zba hv2 sz_2.out); have Qa_3 := Lib.hid (IsQ.stb.next Qa_2.out (hb)); have Ra_3 := Lib.hid (Row.next Ra_2.out (hb)); have Z_3 := Lib.hid (Row.next Z_2.out (hb)); have bw_3 := Lib.hid (zaa bw_2.out (hb)); have sz_3 := Lib.hid (zai sz_2.out (hb)); have N_3 := Lib.hid (IsN.next N_2.out (hb)); have E1_1 := Lib.hid (IsK.stb.next E1_0.out (hb)); clear Qa_2 Ra_2 Z_2 bw_2 sz_2 N_2 E1_0; have V1_0 := newV1; clear newV1; obtain ⟨P2, k2, rfl, _, _, _⟩ := id hv2; clear cRa0_3 cRa1_3 cRa2_3 cZ0_4 cZ1_4 cZ2_4 fZ0_4 fZ1_4 fZ2_4; obtain ⟨cRa0_5, cRa1_5, cRa2_5⟩ := zad Ra_3.out; obtain ⟨cZ0_6, cZ1_6, cZ2_6⟩ := zad Z_3.out; obtain ⟨fZ0_6, fZ1_6, fZ2_6⟩ := zaq Z_3.out)
      | (go_at_call 72; have hc := one_n w2; (with_reducible refine hc.mono ?_); clear hc; rintro e w3 ⟨⟨v3, rfl, hv3⟩, hb⟩; have newV2 := Lib.hid (zba hv3 sz_3.out); have Qa_4 := Lib.hid (IsQ.stb.next Qa_3.out (hb)); have Ra_4 := Lib.hid (Row.next Ra_3.out (hb)); have Z_4 := Lib.hid (Row.next Z_3.out (hb)); have bw_4 := Lib.hid (zaa bw_3.out (hb)); have sz_4 := Lib.hid (zai sz_3.out (hb)); have N_4 := Lib.hid (IsN.next N_3.out (hb)); have E1_2 := Lib.hid (IsK.stb.next E1_1.out (hb)); have V1_1 := Lib.hid (IsK.stb.fresh V1_0.out (hb)); clear Qa_3 Ra_3 Z_3 bw_3 sz_3 N_3 E1_1 V1_0; have V2_0 := newV2; clear newV2; obtain ⟨P3, k3, rfl, _, _, _⟩ := id hv3; clear cRa0_5 cRa1_5 cRa2_5 cZ0_6 cZ1_6 cZ2_6 fZ0_6 fZ1_6 fZ2_6; obtain ⟨cRa0_7, cRa1_7, cRa2_7⟩ := zad Ra_4.out; obtain ⟨cZ0_8, cZ1_8, cZ2_8⟩ := zad Z_4.out; obtain ⟨fZ0_8, fZ1_8, fZ2_8⟩ := zaq Z_4.out))
  go_wp2_with fail
  refine zbb Tryd.results102 rfl rfl (Row.put3 Z_4.out _ _ _) (retQ Hr.out bw_4.out (by omega) V1_1.out V2_0.out (by omega) (by omega))
set_option maxHeartbeats 1000000 in
theorem ratio_q {w : World} {vn vd : Value} {n d : Nat} {q : Rat} (s : Bool) (hn : IsN w 0 w.heap.size vn n) (hd : IsN w 0 w.heap.size vd d) (hB : Bru w) (hnl : (lim n).length ≤ 1000000) (hdl : (lim d).length ≤ 1000000) (hd0 : d ≠ 0) (hq : q = mkRat (sg s n) d) : Calls Tryd.prog 109 #[.bool s, vn, vd] w (RetQ w q) := by
  have HN := Lib.hid hn
  have HD := Lib.hid hd
  have HBr := Lib.hid hB
  have Hnl := Lib.hid hnl
  have Hdl := Lib.hid hdl
  have Hq := Lib.hid hq
  obtain ⟨A, ca, rfl, hla⟩ := isN_slice hn
  obtain ⟨C, cb, rfl, hlb⟩ := isN_slice hd
  clear hn hd hB hnl hdl hq
  by_cases hn0 : n = 0
  · have e0 : (((lim n).length : Int) == 0) = true := len_zero hn0
    have Hz0 : Hid (q = 0) := by rw [Hid, Hq.out, hn0, sg_zero]; simp
    clear hn0
    obtain ⟨w0, hw0, hb0, rZ, Hz⟩ := zch w #[.bool false, .slice none 0 0, .slice none 0 0] 50
    have Z_0 := Lib.hid (rZ)
    have bw_0 := Lib.hid (hb0)
    have sz_0 : Hid (w.heap.size + 1 ≤ w0.heap.size) := Lib.hid (Nat.le_of_eq Hz.out.symm)
    clear rZ hb0
    obtain ⟨cZ0_1, cZ1_1, cZ2_1⟩ := zad Z_0.out
    obtain ⟨fZ0_1, fZ1_1, fZ2_1⟩ := zaq Z_0.out
    go_enter Tryd.func109, Tryd.ntmps109
    go_wp2_with fail
    clear hw0
    refine (zero_q _).mono ?_
    rintro e w1 ⟨⟨v1, rfl, hv⟩, hb⟩
    have newV := Lib.hid (IsQ.stb.le hv sz_0.out)
    have Z_1 := Lib.hid (Row.next Z_0.out (hb))
    have bw_1 := Lib.hid (zaa bw_0.out (hb))
    have sz_1 := Lib.hid (zai sz_0.out (hb))
    clear Z_0 bw_0 sz_0
    have V_0 := newV
    clear newV
    obtain ⟨s1, P1, k1, O1, l1, rfl, _, _, _⟩ := zam hv
    clear cZ0_1 cZ1_1 cZ2_1 fZ0_1 fZ1_1 fZ2_1
    obtain ⟨cZ0_2, cZ1_2, cZ2_2⟩ := zad Z_1.out
    obtain ⟨fZ0_2, fZ1_2, fZ2_2⟩ := zaq Z_1.out
    go_wp2_with fail
    rw [Hz0.out]
    refine zbb Tryd.results109 rfl rfl (Row.put3 Z_1.out _ _ _) (zew V_0.out bw_1.out (by omega) (by omega))
  have e0 : (((lim n).length : Int) == 0) = false := zdz hn0
  have Hn0 := Lib.hid hn0
  have Hd0 := Lib.hid hd0
  clear hn0 hd0
  by_cases h2 : (lim n).length ≤ 2 ∧ (lim d).length ≤ 2
  · obtain ⟨h21, h22⟩ := h2
    have e1 : decide (((lim n).length : Int) ≤ 2) = true := by simp; omega
    have e2 : decide (((lim d).length : Int) ≤ 2) = true := by simp; omega
    have b1 : n < 1000000000000000000 := lt_of_two h21
    have b2 : d < 1000000000000000000 := lt_of_two h22
    have W1 := Lib.hid h21
    have W2 := Lib.hid h22
    obtain ⟨w0, hw0, hb0, rZ, Hz⟩ := zch w #[.bool false, .slice none 0 0, .slice none 0 0] 50
    have Z_0 := Lib.hid (rZ)
    have bw_0 := Lib.hid (hb0)
    have sz_0 : Hid (w.heap.size + 1 ≤ w0.heap.size) := Lib.hid (Nat.le_of_eq Hz.out.symm)
    clear rZ hb0
    obtain ⟨cZ0_1, cZ1_1, cZ2_1⟩ := zad Z_0.out
    obtain ⟨fZ0_1, fZ1_1, fZ2_1⟩ := zaq Z_0.out
    have N_0 := Lib.hid (IsN.next HN.out bw_0.out)
    have D_0 := Lib.hid (IsN.next HD.out bw_0.out)
    have B_0 := Lib.hid (Bru.next HBr.out bw_0.out)
    go_enter Tryd.func109, Tryd.ntmps109
    go_wp2_with fail
    clear hw0
    refine (word_n N_0.out W1.out).mono ?_
    rintro e w1 ⟨rfl, rfl⟩
    go_wp2_with fail
    refine (word_n D_0.out W2.out).mono ?_
    rintro e w1 ⟨rfl, rfl⟩
    go_wp2_with fail
    refine (words_q _ s n d B_0.out Hn0.out Hd0.out (by omega) (by omega)).mono ?_
    rintro e w1 ⟨⟨v1, rfl, hv⟩, hb⟩
    have newV := Lib.hid (IsQ.stb.le hv sz_0.out)
    have Z_1 := Lib.hid (Row.next Z_0.out (hb))
    have bw_1 := Lib.hid (zaa bw_0.out (hb))
    have sz_1 := Lib.hid (zai sz_0.out (hb))
    have N_1 := Lib.hid (IsN.next N_0.out (hb))
    have D_1 := Lib.hid (IsN.next D_0.out (hb))
    have B_1 := Lib.hid (Bru.next B_0.out (hb))
    clear Z_0 bw_0 sz_0 N_0 D_0 B_0
    have V_0 := newV
    clear newV
    obtain ⟨s1, P1, k1, O1, l1, rfl, _, _, _⟩ := zam hv
    clear cZ0_1 cZ1_1 cZ2_1 fZ0_1 fZ1_1 fZ2_1
    obtain ⟨cZ0_2, cZ1_2, cZ2_2⟩ := zad Z_1.out
    obtain ⟨fZ0_2, fZ1_2, fZ2_2⟩ := zaq Z_1.out
    go_wp2_with fail
    rw [Hq.out]
    refine zbb Tryd.results109 rfl rfl (Row.put3 Z_1.out _ _ _) (zew V_0.out bw_1.out (by omega) (by omega))
  rcases Nat.lt_or_ge 2 (lim n).length with h3 | h3
  · have e1 : decide (((lim n).length : Int) ≤ 2) = false := by simp; omega
    clear h2
    obtain ⟨G, hG⟩ : ∃ G, G = Nat.gcd n d := ⟨_, rfl⟩
    have Hr : Hid (raw q = ⟨s, lim (n / G), lim (d / G)⟩) := by rw [Hid, Hq.out, hG]; exact raw_ratio Hn0.out Hd0.out
    have HG := Lib.hid hG
    have HGp : Hid (0 < G) := by rw [Hid, hG]; exact zeq _ Hd0.out
    have HGl : Hid ((lim G).length ≤ 1000000) := by rw [Hid, hG]; exact gcd_le_r _ Hd0.out Hdl.out
    clear hG
    obtain ⟨w0, hw0, hb0, rZ, Hz⟩ := zch w #[.bool false, .slice none 0 0, .slice none 0 0] 50
    have Z_0 := Lib.hid (rZ)
    have bw_0 := Lib.hid (hb0)
    have sz_0 : Hid (w.heap.size + 1 ≤ w0.heap.size) := Lib.hid (Nat.le_of_eq Hz.out.symm)
    clear rZ hb0
    obtain ⟨cZ0_1, cZ1_1, cZ2_1⟩ := zad Z_0.out
    obtain ⟨fZ0_1, fZ1_1, fZ2_1⟩ := zaq Z_0.out
    have N_0 := Lib.hid (IsN.next HN.out bw_0.out)
    have D_0 := Lib.hid (IsN.next HD.out bw_0.out)
    have B_0 := Lib.hid (Bru.next HBr.out bw_0.out)
    go_enter Tryd.func109, Tryd.ntmps109
    go_wp2_with fail
    clear hw0
    refine (gcd_n N_0.out D_0.out B_0.out (Nat.le_trans Hnl.out (by omega)) (Nat.le_trans Hdl.out (by omega))).mono ?_
    rw [← HG.out]
    rintro e w1 ⟨⟨v1, rfl, hv1⟩, hb⟩
    have newG := Lib.hid (zba hv1 sz_0.out)
    have Z_1 := Lib.hid (Row.next Z_0.out (hb))
    have bw_1 := Lib.hid (zaa bw_0.out (hb))
    have sz_1 := Lib.hid (zai sz_0.out (hb))
    have N_1 := Lib.hid (IsN.next N_0.out (hb))
    have D_1 := Lib.hid (IsN.next D_0.out (hb))
    have B_1 := Lib.hid (Bru.next B_0.out (hb))
    clear Z_0 bw_0 sz_0 N_0 D_0 B_0
    have G_0 := newG
    clear newG
    obtain ⟨P1, k1, rfl, _, _, _⟩ := id hv1
    clear cZ0_1 cZ1_1 cZ2_1 fZ0_1 fZ1_1 fZ2_1
    obtain ⟨cZ0_2, cZ1_2, cZ2_2⟩ := zad Z_1.out
    obtain ⟨fZ0_2, fZ1_2, fZ2_2⟩ := zaq Z_1.out
    go_wp2_with fail
    refine (zcz (isN_old N_1.out) (zak (IsK.stb.old G_0.out)) (Nat.le_trans Hnl.out (by omega)) (Nat.le_trans HGl.out (by omega)) HGp.out).mono ?_
    rintro e w2 ⟨⟨v2, rfl, hv2⟩, hb⟩
    have newE1 := Lib.hid (hv2)
    have Z_2 := Lib.hid (Row.next Z_1.out (hb))
    have bw_2 := Lib.hid (zaa bw_1.out (hb))
    have sz_2 := Lib.hid (zai sz_1.out (hb))
    have N_2 := Lib.hid (IsN.next N_1.out (hb))
    have D_2 := Lib.hid (IsN.next D_1.out (hb))
    have B_2 := Lib.hid (Bru.next B_1.out (hb))
    have G_1 := Lib.hid (IsK.stb.fresh G_0.out (hb))
    clear Z_1 bw_1 sz_1 N_1 D_1 B_1 G_0
    have E1_0 := newE1
    clear newE1
    obtain ⟨P2, k2, rfl, _, _, _⟩ := id hv2
    clear cZ0_2 cZ1_2 cZ2_2 fZ0_2 fZ1_2 fZ2_2
    obtain ⟨cZ0_3, cZ1_3, cZ2_3⟩ := zad Z_2.out
    obtain ⟨fZ0_3, fZ1_3, fZ2_3⟩ := zaq Z_2.out
    go_wp2_with fail
    refine (copy_n (zak E1_0.out) (Nat.le_trans (zds Hnl.out) (by omega))).mono ?_
    rintro e w3 ⟨⟨v3, rfl, hv3⟩, hb⟩
    have newV1 := Lib.hid (zba hv3 sz_2.out)
    have Z_3 := Lib.hid (Row.next Z_2.out (hb))
    have bw_3 := Lib.hid (zaa bw_2.out (hb))
    have sz_3 := Lib.hid (zai sz_2.out (hb))
    have N_3 := Lib.hid (IsN.next N_2.out (hb))
    have D_3 := Lib.hid (IsN.next D_2.out (hb))
    have B_3 := Lib.hid (Bru.next B_2.out (hb))
    have G_2 := Lib.hid (IsK.stb.fresh G_1.out (hb))
    have E1_1 := Lib.hid (IsK.stb.next E1_0.out (hb))
    clear Z_2 bw_2 sz_2 N_2 D_2 B_2 G_1 E1_0
    have V1_0 := newV1
    clear newV1
    obtain ⟨P3, k3, rfl, _, _, _⟩ := id hv3
    clear cZ0_3 cZ1_3 cZ2_3 fZ0_3 fZ1_3 fZ2_3
    obtain ⟨cZ0_4, cZ1_4, cZ2_4⟩ := zad Z_3.out
    obtain ⟨fZ0_4, fZ1_4, fZ2_4⟩ := zaq Z_3.out
    go_wp2_with fail
    refine (zcz (isN_old D_3.out) (zak (IsK.stb.old G_2.out)) (Nat.le_trans Hdl.out (by omega)) (Nat.le_trans HGl.out (by omega)) HGp.out).mono ?_
    rintro e w4 ⟨⟨v4, rfl, hv4⟩, hb⟩
    have newE2 := Lib.hid (hv4)
    have Z_4 := Lib.hid (Row.next Z_3.out (hb))
    have bw_4 := Lib.hid (zaa bw_3.out (hb))
    have sz_4 := Lib.hid (zai sz_3.out (hb))
    have N_4 := Lib.hid (IsN.next N_3.out (hb))
    have D_4 := Lib.hid (IsN.next D_3.out (hb))
    have B_4 := Lib.hid (Bru.next B_3.out (hb))
    have G_3 := Lib.hid (IsK.stb.fresh G_2.out (hb))
    have E1_2 := Lib.hid (IsK.stb.next E1_1.out (hb))
    have V1_1 := Lib.hid (IsK.stb.fresh V1_0.out (hb))
    clear Z_3 bw_3 sz_3 N_3 D_3 B_3 G_2 E1_1 V1_0
    have E2_0 := newE2
    clear newE2
    obtain ⟨P4, k4, rfl, _, _, _⟩ := id hv4
    clear cZ0_4 cZ1_4 cZ2_4 fZ0_4 fZ1_4 fZ2_4
    obtain ⟨cZ0_5, cZ1_5, cZ2_5⟩ := zad Z_4.out
    obtain ⟨fZ0_5, fZ1_5, fZ2_5⟩ := zaq Z_4.out
    go_wp2_with fail
    refine (copy_n (zak E2_0.out) (Nat.le_trans (zds Hdl.out) (by omega))).mono ?_
    rintro e w5 ⟨⟨v5, rfl, hv5⟩, hb⟩
    have newV2 := Lib.hid (zba hv5 sz_4.out)
    have Z_5 := Lib.hid (Row.next Z_4.out (hb))
    have bw_5 := Lib.hid (zaa bw_4.out (hb))
    have sz_5 := Lib.hid (zai sz_4.out (hb))
    have N_5 := Lib.hid (IsN.next N_4.out (hb))
    have D_5 := Lib.hid (IsN.next D_4.out (hb))
    have B_5 := Lib.hid (Bru.next B_4.out (hb))
    have G_4 := Lib.hid (IsK.stb.fresh G_3.out (hb))
    have E1_3 := Lib.hid (IsK.stb.next E1_2.out (hb))
    have V1_2 := Lib.hid (IsK.stb.fresh V1_1.out (hb))
    have E2_1 := Lib.hid (IsK.stb.next E2_0.out (hb))
    clear Z_4 bw_4 sz_4 N_4 D_4 B_4 G_3 E1_2 V1_1 E2_0
    have V2_0 := newV2
    clear newV2
    obtain ⟨P5, k5, rfl, _, _, _⟩ := id hv5
    clear cZ0_5 cZ1_5 cZ2_5 fZ0_5 fZ1_5 fZ2_5
    obtain ⟨cZ0_6, cZ1_6, cZ2_6⟩ := zad Z_5.out
    obtain ⟨fZ0_6, fZ1_6, fZ2_6⟩ := zaq Z_5.out
    go_wp2_with fail
    refine zbb Tryd.results109 rfl rfl (Row.put3 Z_5.out _ _ _) (retQ Hr.out bw_5.out (by omega) V1_2.out V2_0.out (by omega) (by omega))
  · have e1 : decide (((lim n).length : Int) ≤ 2) = true := by simp; omega
    have e2 : decide (((lim d).length : Int) ≤ 2) = false := by simp; omega
    clear h2
    obtain ⟨G, hG⟩ : ∃ G, G = Nat.gcd n d := ⟨_, rfl⟩
    have Hr : Hid (raw q = ⟨s, lim (n / G), lim (d / G)⟩) := by rw [Hid, Hq.out, hG]; exact raw_ratio Hn0.out Hd0.out
    have HG := Lib.hid hG
    have HGp : Hid (0 < G) := by rw [Hid, hG]; exact zeq _ Hd0.out
    have HGl : Hid ((lim G).length ≤ 1000000) := by rw [Hid, hG]; exact gcd_le_r _ Hd0.out Hdl.out
    clear hG
    obtain ⟨w0, hw0, hb0, rZ, Hz⟩ := zch w #[.bool false, .slice none 0 0, .slice none 0 0] 50
    have Z_0 := Lib.hid (rZ)
    have bw_0 := Lib.hid (hb0)
    have sz_0 : Hid (w.heap.size + 1 ≤ w0.heap.size) := Lib.hid (Nat.le_of_eq Hz.out.symm)
    clear rZ hb0
    obtain ⟨cZ0_1, cZ1_1, cZ2_1⟩ := zad Z_0.out
    obtain ⟨fZ0_1, fZ1_1, fZ2_1⟩ := zaq Z_0.out
    have N_0 := Lib.hid (IsN.next HN.out bw_0.out)
    have D_0 := Lib.hid (IsN.next HD.out bw_0.out)
    have B_0 := Lib.hid (Bru.next HBr.out bw_0.out)
    go_enter Tryd.func109, Tryd.ntmps109
    go_wp2_with fail
    clear hw0
    refine (gcd_n N_0.out D_0.out B_0.out (Nat.le_trans Hnl.out (by omega)) (Nat.le_trans Hdl.out (by omega))).mono ?_
    rw [← HG.out]
    rintro e w1 ⟨⟨v1, rfl, hv1⟩, hb⟩
    have newG := Lib.hid (zba hv1 sz_0.out)
    have Z_1 := Lib.hid (Row.next Z_0.out (hb))
    have bw_1 := Lib.hid (zaa bw_0.out (hb))
    have sz_1 := Lib.hid (zai sz_0.out (hb))
    have N_1 := Lib.hid (IsN.next N_0.out (hb))
    have D_1 := Lib.hid (IsN.next D_0.out (hb))
    have B_1 := Lib.hid (Bru.next B_0.out (hb))
    clear Z_0 bw_0 sz_0 N_0 D_0 B_0
    have G_0 := newG
    clear newG
    obtain ⟨P1, k1, rfl, _, _, _⟩ := id hv1
    clear cZ0_1 cZ1_1 cZ2_1 fZ0_1 fZ1_1 fZ2_1
    obtain ⟨cZ0_2, cZ1_2, cZ2_2⟩ := zad Z_1.out
    obtain ⟨fZ0_2, fZ1_2, fZ2_2⟩ := zaq Z_1.out
    go_wp2_with fail
    refine (zcz (isN_old N_1.out) (zak (IsK.stb.old G_0.out)) (Nat.le_trans Hnl.out (by omega)) (Nat.le_trans HGl.out (by omega)) HGp.out).mono ?_
    rintro e w2 ⟨⟨v2, rfl, hv2⟩, hb⟩
    have newE1 := Lib.hid (hv2)
    have Z_2 := Lib.hid (Row.next Z_1.out (hb))
    have bw_2 := Lib.hid (zaa bw_1.out (hb))
    have sz_2 := Lib.hid (zai sz_1.out (hb))
    have N_2 := Lib.hid (IsN.next N_1.out (hb))
    have D_2 := Lib.hid (IsN.next D_1.out (hb))
    have B_2 := Lib.hid (Bru.next B_1.out (hb))
    have G_1 := Lib.hid (IsK.stb.fresh G_0.out (hb))
    clear Z_1 bw_1 sz_1 N_1 D_1 B_1 G_0
    have E1_0 := newE1
    clear newE1
    obtain ⟨P2, k2, rfl, _, _, _⟩ := id hv2
    clear cZ0_2 cZ1_2 cZ2_2 fZ0_2 fZ1_2 fZ2_2
    obtain ⟨cZ0_3, cZ1_3, cZ2_3⟩ := zad Z_2.out
    obtain ⟨fZ0_3, fZ1_3, fZ2_3⟩ := zaq Z_2.out
    go_wp2_with fail
    refine (copy_n (zak E1_0.out) (Nat.le_trans (zds Hnl.out) (by omega))).mono ?_
    rintro e w3 ⟨⟨v3, rfl, hv3⟩, hb⟩
    have newV1 := Lib.hid (zba hv3 sz_2.out)
    have Z_3 := Lib.hid (Row.next Z_2.out (hb))
    have bw_3 := Lib.hid (zaa bw_2.out (hb))
    have sz_3 := Lib.hid (zai sz_2.out (hb))
    have N_3 := Lib.hid (IsN.next N_2.out (hb))
    have D_3 := Lib.hid (IsN.next D_2.out (hb))
    have B_3 := Lib.hid (Bru.next B_2.out (hb))
    have G_2 := Lib.hid (IsK.stb.fresh G_1.out (hb))
    have E1_1 := Lib.hid (IsK.stb.next E1_0.out (hb))
    clear Z_2 bw_2 sz_2 N_2 D_2 B_2 G_1 E1_0
    have V1_0 := newV1
    clear newV1
    obtain ⟨P3, k3, rfl, _, _, _⟩ := id hv3
    clear cZ0_3 cZ1_3 cZ2_3 fZ0_3 fZ1_3 fZ2_3
    obtain ⟨cZ0_4, cZ1_4, cZ2_4⟩ := zad Z_3.out
    obtain ⟨fZ0_4, fZ1_4, fZ2_4⟩ := zaq Z_3.out
    go_wp2_with fail
    refine (zcz (isN_old D_3.out) (zak (IsK.stb.old G_2.out)) (Nat.le_trans Hdl.out (by omega)) (Nat.le_trans HGl.out (by omega)) HGp.out).mono ?_
    rintro e w4 ⟨⟨v4, rfl, hv4⟩, hb⟩
    have newE2 := Lib.hid (hv4)
    have Z_4 := Lib.hid (Row.next Z_3.out (hb))
    have bw_4 := Lib.hid (zaa bw_3.out (hb))
    have sz_4 := Lib.hid (zai sz_3.out (hb))
    have N_4 := Lib.hid (IsN.next N_3.out (hb))
    have D_4 := Lib.hid (IsN.next D_3.out (hb))
    have B_4 := Lib.hid (Bru.next B_3.out (hb))
    have G_3 := Lib.hid (IsK.stb.fresh G_2.out (hb))
    have E1_2 := Lib.hid (IsK.stb.next E1_1.out (hb))
    have V1_1 := Lib.hid (IsK.stb.fresh V1_0.out (hb))
    clear Z_3 bw_3 sz_3 N_3 D_3 B_3 G_2 E1_1 V1_0
    have E2_0 := newE2
    clear newE2
    obtain ⟨P4, k4, rfl, _, _, _⟩ := id hv4
    clear cZ0_4 cZ1_4 cZ2_4 fZ0_4 fZ1_4 fZ2_4
    obtain ⟨cZ0_5, cZ1_5, cZ2_5⟩ := zad Z_4.out
    obtain ⟨fZ0_5, fZ1_5, fZ2_5⟩ := zaq Z_4.out
    go_wp2_with fail
    refine (copy_n (zak E2_0.out) (Nat.le_trans (zds Hdl.out) (by omega))).mono ?_
    rintro e w5 ⟨⟨v5, rfl, hv5⟩, hb⟩
    have newV2 := Lib.hid (zba hv5 sz_4.out)
    have Z_5 := Lib.hid (Row.next Z_4.out (hb))
    have bw_5 := Lib.hid (zaa bw_4.out (hb))
    have sz_5 := Lib.hid (zai sz_4.out (hb))
    have N_5 := Lib.hid (IsN.next N_4.out (hb))
    have D_5 := Lib.hid (IsN.next D_4.out (hb))
    have B_5 := Lib.hid (Bru.next B_4.out (hb))
    have G_4 := Lib.hid (IsK.stb.fresh G_3.out (hb))
    have E1_3 := Lib.hid (IsK.stb.next E1_2.out (hb))
    have V1_2 := Lib.hid (IsK.stb.fresh V1_1.out (hb))
    have E2_1 := Lib.hid (IsK.stb.next E2_0.out (hb))
    clear Z_4 bw_4 sz_4 N_4 D_4 B_4 G_3 E1_2 V1_1 E2_0
    have V2_0 := newV2
    clear newV2
    obtain ⟨P5, k5, rfl, _, _, _⟩ := id hv5
    clear cZ0_5 cZ1_5 cZ2_5 fZ0_5 fZ1_5 fZ2_5
    obtain ⟨cZ0_6, cZ1_6, cZ2_6⟩ := zad Z_5.out
    obtain ⟨fZ0_6, fZ1_6, fZ2_6⟩ := zaq Z_5.out
    go_wp2_with fail
    refine zbb Tryd.results109 rfl rfl (Row.put3 Z_5.out _ _ _) (retQ Hr.out bw_5.out (by omega) V1_2.out V2_0.out (by omega) (by omega))
theorem boxes4 (w : World) (c1 c2 c3 c4 : Array Value) (t1 t2 t3 t4 : TypeId) : ∃ w0, (((w.alloc (.cells c1 t1)).alloc (.cells c2 t2)).alloc (.cells c3 t3)).alloc (.cells c4 t4) = w0 ∧ Below w.heap.size w w0 ∧ Row w0 w.heap.size t1 c1.toList ∧ Row w0 (w.heap.size + 1) t2 c2.toList ∧
    Row w0 (w.heap.size + 2) t3 c3.toList ∧ Row w0 (w.heap.size + 3) t4 c4.toList ∧ Hid (w0.heap.size = w.heap.size + 4) := by
  obtain ⟨w1, rfl, h1, h2, h3, h4, h5⟩ := zfp w c1 c2 c3 t1 t2 t3
  obtain ⟨w2, rfl, k1, k2, k3⟩ := zch (((w.alloc (.cells c1 t1)).alloc (.cells c2 t2)).alloc (.cells c3 t3)) c4 t4
  have h5' := h5.out
  rw [h5'] at k2 k3
  exact ⟨_, rfl, zaa h1 k1, h2.next k1, h3.next k1, h4.next k1, k2, k3⟩
set_option maxHeartbeats 1000000 in
theorem dot1_q {w : World} {va vb vc : Value} {qa qb qc : Rat} (ha : IsQ w (Old w) va qa) (hb : IsQ w (Old w) vb qb) (hc : IsQ w (Old w) vc qc) (hB : Bru w) (sa : Sz qa 100000) (sb : Sz qb 100000) (sc : Sz qc 100000) (sp : Sz (qb * qc) 100000) : Calls Tryd.prog 111 #[va, vb, vc] w (RetQ w (qa + qb * qc)) := by
  have HQa := Lib.hid ha
  obtain ⟨nega, Aa, cAa, Ba, cBa, rfl, Hnega, Hna, Hda⟩ := zam ha
  have HQb := Lib.hid hb
  obtain ⟨negb, Ab, cAb, Bb, cBb, rfl, Hnegb, Hnb, Hdb⟩ := zam hb
  have HQc := Lib.hid hc
  obtain ⟨negc, Ac, cAc, Bc, cBc, rfl, Hnegc, Hnc, Hdc⟩ := zam hc
  have HB := Lib.hid hB
  have Hsa := Lib.hid sa
  have Hsb := Lib.hid sb
  have Hsc := Lib.hid sc
  have Hsp := Lib.hid sp
  clear ha hb hc hB sa sb sc sp
  obtain ⟨w0, hw0, hb0, ra, rb, rc, rZ, Hz⟩ := boxes4 w #[.bool nega, .slice Aa (lim qa.num.natAbs).length cAa, .slice Ba (lim qa.den).length cBa] #[.bool negb, .slice Ab (lim qb.num.natAbs).length cAb, .slice Bb (lim qb.den).length cBb] #[.bool negc, .slice Ac (lim qc.num.natAbs).length cAc, .slice Bc (lim qc.den).length cBc] #[.bool false, .slice none 0 0, .slice none 0 0] 50 50 50 50
  have Qa_0 := Lib.hid (IsQ.stb.next HQa.out hb0)
  have Ra_0 := Lib.hid (ra)
  have Qb_0 := Lib.hid (IsQ.stb.next HQb.out hb0)
  have Rb_0 := Lib.hid (rb)
  have Qc_0 := Lib.hid (IsQ.stb.next HQc.out hb0)
  have Rc_0 := Lib.hid (rc)
  have Z_0 := Lib.hid (rZ)
  have bw_0 := Lib.hid (hb0)
  have sz_0 : Hid (w.heap.size + 4 ≤ w0.heap.size) := Lib.hid (Nat.le_of_eq Hz.out.symm)
  clear ra rb rc rZ hb0
  obtain ⟨cRa0_1, cRa1_1, cRa2_1⟩ := zad Ra_0.out
  obtain ⟨cRb0_2, cRb1_2, cRb2_2⟩ := zad Rb_0.out
  obtain ⟨cRc0_3, cRc1_3, cRc2_3⟩ := zad Rc_0.out
  obtain ⟨cZ0_4, cZ1_4, cZ2_4⟩ := zad Z_0.out
  obtain ⟨fZ0_4, fZ1_4, fZ2_4⟩ := zaq Z_0.out
  have B_0 := Lib.hid (Bru.next HB.out bw_0.out)
  go_enter Tryd.func111, Tryd.ntmps111
  go_wp2_with fail
  clear hw0
  have Qa_1 := Lib.hid (IsQ.stb.next Qa_0.out (zac _))
  have Ra_1 := Lib.hid (Row.next Ra_0.out (zac _))
  have Qb_1 := Lib.hid (IsQ.stb.next Qb_0.out (zac _))
  have Rb_1 := Lib.hid (Row.next Rb_0.out (zac _))
  have Qc_1 := Lib.hid (IsQ.stb.next Qc_0.out (zac _))
  have Rc_1 := Lib.hid (Row.next Rc_0.out (zac _))
  have Z_1 := Lib.hid (Row.next Z_0.out (zac _))
  have bw_1 := Lib.hid (zaa bw_0.out (zac _))
  have sz_1 := Lib.hid (zai sz_0.out (zac _))
  have B_1 := Lib.hid (Bru.next B_0.out (zac _))
  clear Qa_0 Ra_0 Qb_0 Rb_0 Qc_0 Rc_0 Z_0 bw_0 sz_0 B_0
  go_region_held3 (fun w' => w'.cell? ⟨w.heap.size, 0, none⟩ = some (.bool nega) ∧ w'.cell? ⟨w.heap.size, 1, none⟩ = some (.slice Aa (lim qa.num.natAbs).length cAa) ∧ w'.cell? ⟨w.heap.size, 2, none⟩ = some (.slice Ba (lim qa.den).length cBa) ∧ w'.cell? ⟨w.heap.size + 1, 0, none⟩ = some (.bool negb) ∧ w'.cell? ⟨w.heap.size + 1, 1, none⟩ = some (.slice Ab (lim qb.num.natAbs).length cAb) ∧ w'.cell? ⟨w.heap.size + 1, 2, none⟩ = some (.slice Bb (lim qb.den).length cBb) ∧ w'.cell? ⟨w.heap.size + 2, 0, none⟩ = some (.bool negc) ∧ w'.cell? ⟨w.heap.size + 2, 1, none⟩ = some (.slice Ac (lim qc.num.natAbs).length cAc) ∧ w'.cell? ⟨w.heap.size + 2, 2, none⟩ = some (.slice Bc (lim qc.den).length cBc))
    (first
      | exact ⟨cRa0_1, cRa1_1, cRa2_1, cRb0_2, cRb1_2, cRb2_2, cRc0_3, cRc1_3, cRc2_3⟩
      | exact ⟨cRa0_5, cRa1_5, cRa2_5, cRb0_6, cRb1_6, cRb2_6, cRc0_7, cRc1_7, cRc2_7⟩
      | exact ⟨cRa0_9, cRa1_9, cRa2_9, cRb0_10, cRb1_10, cRb2_10, cRc0_11, cRc1_11, cRc2_11⟩
      | exact ⟨zap cRa0_9 (by omega), zap cRa1_9 (by omega), zap cRa2_9 (by omega), zap cRb0_10 (by omega), zap cRb1_10 (by omega), zap cRb2_10 (by omega), zap cRc0_11 (by omega), zap cRc1_11 (by omega), zap cRc2_11 (by omega)⟩)
    (first
      | (go_at_call 91; have hc := times_q Qb_1.out Qc_1.out B_1.out Hsb.out Hsc.out rfl; (with_reducible refine hc.mono ?_); clear hc; rintro e w1 ⟨⟨v1, rfl, hv1⟩, hb⟩; have newP := Lib.hid (IsQ.stb.le hv1 sz_1.out); have Qa_2 := Lib.hid (IsQ.stb.next Qa_1.out (hb)); have Ra_2 := Lib.hid (Row.next Ra_1.out (hb)); have Qb_2 := Lib.hid (IsQ.stb.next Qb_1.out (hb)); have Rb_2 := Lib.hid (Row.next Rb_1.out (hb)); have Qc_2 := Lib.hid (IsQ.stb.next Qc_1.out (hb)); have Rc_2 := Lib.hid (Row.next Rc_1.out (hb)); have Z_2 := Lib.hid (Row.next Z_1.out (hb)); have bw_2 := Lib.hid (zaa bw_1.out (hb)); have sz_2 := Lib.hid (zai sz_1.out (hb)); have B_2 := Lib.hid (Bru.next B_1.out (hb)); clear Qa_1 Ra_1 Qb_1 Rb_1 Qc_1 Rc_1 Z_1 bw_1 sz_1 B_1; have P_0 := newP; clear newP; obtain ⟨s1, P1, k1, O1, l1, rfl, _, _, _⟩ := zam hv1; clear cRa0_1 cRa1_1 cRa2_1 cRb0_2 cRb1_2 cRb2_2 cRc0_3 cRc1_3 cRc2_3 cZ0_4 cZ1_4 cZ2_4 fZ0_4 fZ1_4 fZ2_4; obtain ⟨cRa0_5, cRa1_5, cRa2_5⟩ := zad Ra_2.out; obtain ⟨cRb0_6, cRb1_6, cRb2_6⟩ := zad Rb_2.out; obtain ⟨cRc0_7, cRc1_7, cRc2_7⟩ := zad Rc_2.out; obtain ⟨cZ0_8, cZ1_8, cZ2_8⟩ := zad Z_2.out; obtain ⟨fZ0_8, fZ1_8, fZ2_8⟩ := zaq Z_2.out)
      | (go_at_call 89; have hc := plus_q Qa_2.out (IsQ.stb.old P_0.out) B_2.out Hsa.out Hsp.out rfl; (with_reducible refine hc.mono ?_); clear hc; rintro e w2 ⟨⟨v2, rfl, hv2⟩, hb⟩; have newU := Lib.hid (IsQ.stb.le hv2 sz_2.out); have Qa_3 := Lib.hid (IsQ.stb.next Qa_2.out (hb)); have Ra_3 := Lib.hid (Row.next Ra_2.out (hb)); have Qb_3 := Lib.hid (IsQ.stb.next Qb_2.out (hb)); have Rb_3 := Lib.hid (Row.next Rb_2.out (hb)); have Qc_3 := Lib.hid (IsQ.stb.next Qc_2.out (hb)); have Rc_3 := Lib.hid (Row.next Rc_2.out (hb)); have Z_3 := Lib.hid (Row.next Z_2.out (hb)); have bw_3 := Lib.hid (zaa bw_2.out (hb)); have sz_3 := Lib.hid (zai sz_2.out (hb)); have B_3 := Lib.hid (Bru.next B_2.out (hb)); have P_1 := Lib.hid (IsQ.stb.fresh P_0.out (hb)); clear Qa_2 Ra_2 Qb_2 Rb_2 Qc_2 Rc_2 Z_2 bw_2 sz_2 B_2 P_0; have U_0 := newU; clear newU; obtain ⟨s2, P2, k2, O2, l2, rfl, _, _, _⟩ := zam hv2; clear cRa0_5 cRa1_5 cRa2_5 cRb0_6 cRb1_6 cRb2_6 cRc0_7 cRc1_7 cRc2_7 cZ0_8 cZ1_8 cZ2_8 fZ0_8 fZ1_8 fZ2_8; obtain ⟨cRa0_9, cRa1_9, cRa2_9⟩ := zad Ra_3.out; obtain ⟨cRb0_10, cRb1_10, cRb2_10⟩ := zad Rb_3.out; obtain ⟨cRc0_11, cRc1_11, cRc2_11⟩ := zad Rc_3.out; obtain ⟨cZ0_12, cZ1_12, cZ2_12⟩ := zad Z_3.out; obtain ⟨fZ0_12, fZ1_12, fZ2_12⟩ := zaq Z_3.out))
  go_wp2_with fail
  refine zbb Tryd.results111 rfl rfl (Row.put3 Z_3.out _ _ _) (zew U_0.out bw_3.out (by omega) (by omega))
theorem columns_l {w : World} {v : Value} {m : List (List Raw)} (h : IsM w (Old w) v m) : Calls Tryd.prog 67 #[v] w fun e w' => e = .returned (.int .i64 ((m.headD []).length : Int)) ∧ w = w' := by
  have H := Lib.hid h
  obtain ⟨A, c, rfl, hl⟩ := zdk h
  clear h
  cases m with
  | nil =>
    go_enter Tryd.func67, Tryd.ntmps67
    go_wp2_with fail
    go_ret
    exact ⟨rfl, rfl⟩
  | cons r t =>
    obtain ⟨b, o, B, d, rfl, hb, hr, hc⟩ := zcj H.out (j := 0) (l := r) rfl
    have hlt : (0 : Int) < ((t.length : Int) + 1) := by omega
    have hne : ¬ ((t.length : Int) + 1 = 0) := by omega
    simp at hc hl
    clear H
    go_enter Tryd.func67, Tryd.ntmps67
    go_wp2_with fail
    go_ret
    exact ⟨rfl, rfl⟩
def bothE (a b : List Raw) : Int := if chkV a ≠ 0 then chkV a else if chkV b ≠ 0 then chkV b else if a.length ≠ b.length then 10 else 0
set_option maxHeartbeats 1000000 in
theorem vboth_l {w : World} {va vb : Value} {a b : List Raw} (ha : IsV w (Old w) va a) (hb : IsV w (Old w) vb b) (hB : Bru w) : Calls Tryd.prog 86 #[va, vb] w fun e w' => e = .returned (.int .i64 (bothE a b)) ∧ Below w.heap.size w w' := by
  obtain ⟨A, cA, rfl, hla⟩ := zcb ha
  obtain ⟨B, cB, rfl, hlb⟩ := zcb hb
  have HA := Lib.hid ha
  have HV := Lib.hid hb
  have HB := Lib.hid hB
  obtain ⟨x, hx⟩ : ∃ x, x = chkV a := ⟨_, rfl⟩
  obtain ⟨y, hy⟩ : ∃ y, y = chkV b := ⟨_, rfl⟩
  have Hx := Lib.hid hx
  have Hy := Lib.hid hy
  clear ha hb hB
  go_enter Tryd.func86, Tryd.ntmps86
  go_wp2_with fail
  refine (vcheck_l HA.out HB.out).mono ?_
  rintro e w1 ⟨rfl, hb1⟩
  rw [← Hx.out]
  have HB1 := Lib.hid hb1
  clear hb1 hx hy
  by_cases h1 : x = 0
  · subst h1
    go_wp2_with fail
    refine (vcheck_l (IsV.stb.to HV.out (zax HB1.out)) (Bru.next HB.out HB1.out)).mono ?_
    rintro e w2 ⟨rfl, hb2⟩
    rw [← Hy.out]
    have HB2 := Lib.hid (zaa HB1.out hb2)
    clear hb2
    by_cases h2 : y = 0
    · subst h2
      by_cases h3 : a.length = b.length
      · have h4 : (a.length : Int) = (b.length : Int) := by rw [h3]
        go_wp2_with fail
        go_ret
        exact ⟨by rw [bothE, ← Hx.out, ← Hy.out, if_neg (by simp), if_neg (by simp), if_neg (by simpa using h3)]; rfl, HB2.out⟩
      · have h4 : ¬ ((a.length : Int) = (b.length : Int)) := by omega
        go_wp2_with fail
        go_ret
        exact ⟨by rw [bothE, ← Hx.out, ← Hy.out, if_neg (by simp), if_neg (by simp), if_pos (by simpa using h3)]; rfl, HB2.out⟩
    · go_wp2_with fail
      go_ret
      exact ⟨by rw [bothE, ← Hx.out, ← Hy.out, if_neg (by simp), if_pos h2]; rfl, HB2.out⟩
  · go_wp2_with fail
    go_ret
    exact ⟨by rw [bothE, ← Hx.out, if_pos h1]; rfl, HB1.out⟩
end Go.Proofs.YtblpaocignlpkaaDoor
