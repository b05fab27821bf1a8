/-
  Memory where one row at a time may change: what stays, and an append onto a row of one's own as one step of a region that draws its order.
-/
import Derived.Test.YtblpaocignlpkaaDoorBase12
import Derived.Test.YtblpaocignlpkaaDoorProofDualTwice01
import Derived.Maps.AppendAt
import Derived.Test.YtblpaocignlpkaaDoorBase07
namespace Go.Proofs.YtblpaocignlpkaaDoor
open Go.RowKit
set_option linter.unusedVariables false

theorem grown_refl (w : World) (r : Option Nat) : w.grownBy w r := ⟨rfl, rfl, rfl, Nat.le_refl _, fun _ _ _ => rfl⟩
theorem grown_trans {a b c : World} {r : Option Nat} (h : a.grownBy b r) (k : b.grownBy c r) : a.grownBy c r :=
  ⟨k.os.trans h.os, k.tape.trans h.tape, k.output.trans h.output, Nat.le_trans h.size k.size, fun j hj hr => (k.block j (Nat.lt_of_lt_of_le hj h.size) hr).trans (h.block j hj hr)⟩
theorem grown_new (w : World) (o : Obj) (r : Option Nat) : w.grownBy (w.alloc o) r := grown_below (below_new w o)
theorem same_grownS {w w' : World} {r : Option Nat} {S : Nat → Prop} (hg : w.grownBy w' r) (hS : ∀ b, S b → b < w.heap.size ∧ some b ≠ r) : Same S S w w' := fun b hb => ⟨hb, fun o => World.cell?_of_block (hg.block b (hS b hb).1 (hS b hb).2)⟩
theorem OwnS.own_lt {α : Type} {n : Nat} {t : TypeId} {R : World → (Nat → Prop) → Value → α → Prop} {w : World} {base : Nat} {S : Nat → Prop} {v : Value} {l : List α} (h : OwnS n t R w base S v l) : ∀ b, v.ownBlock = some b → base ≤ b ∧ b < w.heap.size := by
  obtain ⟨es, h1, _⟩ := h
  exact fun b hb => h1.lt b hb
theorem OwnS.grown {α : Type} {n : Nat} {t : TypeId} {R : World → (Nat → Prop) → Value → α → Prop} (hR : Stb R) {w w' : World} {base : Nat} {S : Nat → Prop} {v : Value} {l : List α} {r : Option Nat} (h : OwnS n t R w base S v l)
    (hb : w.grownBy w' r) (hr : ∀ b, r = some b → v.ownBlock ≠ some b ∧ ¬ S b) : OwnS n t R w' base S v l := by
  obtain ⟨es, h1, h2, h3, h4⟩ := h
  have hne : v.ownBlock = none ∨ v.ownBlock ≠ r := by
    cases r with
    | none => cases v.ownBlock <;> simp
    | some b => exact .inr (hr b rfl).1
  refine ⟨es, h1.kept hb hne, h2, h3.imp fun x y h => hR.to h (same_grownS hb fun b hb' => ⟨(h4 b hb').1, fun e => (hr b e.symm).2 hb'⟩), fun b hb' => ⟨Nat.lt_of_lt_of_le (h4 b hb').1 hb.size, (h4 b hb').2⟩⟩
theorem OwnS.wider {α : Type} {n : Nat} {t : TypeId} {R : World → (Nat → Prop) → Value → α → Prop} (hR : Stb R) {w : World} {base : Nat} {S T : Nat → Prop} {v : Value} {l : List α} (h : OwnS n t R w base S v l)
    (hST : ∀ b, S b → T b) (hT : ∀ b, T b → b < w.heap.size ∧ some b ≠ v.ownBlock) : OwnS n t R w base T v l := by
  obtain ⟨es, h1, h2, h3, h4⟩ := h
  exact ⟨es, h1, h2, h3.imp fun x y h => hR.to h fun b hb => ⟨hST b hb, fun o => rfl⟩, hT⟩
theorem Row.grownN {w w' : World} {g : Nat} {t : TypeId} {xs : List Value} {r : Option Nat} (h : Row w g t xs) (hb : w.grownBy w' r) (hr : ∀ b, r = some b → g ≠ b) : Row w' g t xs := h.grown hb (fun e => hr g e.symm rfl)
theorem IsD.grownN {w w' : World} {g : Nat} {l : List Int} {r : Option Nat} (h : IsD w g l) (hb : w.grownBy w' r) (hr : ∀ b, r = some b → g < b) : IsD w' g l := by
  cases r with
  | none =>
    have hl := h.lt
    obtain ⟨A, c, k, h1, h2, h3⟩ := h
    exact ⟨A, c, k, h1.grown hb (by simp), IsIL.stb.to h2 (same_grownS hb fun b hb' => ⟨by omega, by simp⟩), h3⟩
  | some b => exact h.grown hb (hr b rfl)
/-- All but three rows stays as it was. -/
structure Kept (r1 r2 r3 : Option Nat) (w w' : World) : Prop where
  os : w'.os = w.os
  tape : w'.tape = w.tape
  output : w'.output = w.output
  size : w.heap.size ≤ w'.heap.size
  block : ∀ k, k < w.heap.size → some k ≠ r1 → some k ≠ r2 → some k ≠ r3 → w'.heap[k]? = w.heap[k]?
theorem Kept.refl (r1 r2 r3 : Option Nat) (w : World) : Kept r1 r2 r3 w w := ⟨rfl, rfl, rfl, Nat.le_refl _, fun _ _ _ _ _ => rfl⟩
theorem Kept.step {r1 r2 r3 : Option Nat} {a b c : World} {r : Option Nat} (h : Kept r1 r2 r3 a b) (k : b.grownBy c r) (hr : r = none ∨ r = r1 ∨ r = r2 ∨ r = r3) : Kept r1 r2 r3 a c :=
  ⟨k.os.trans h.os, k.tape.trans h.tape, k.output.trans h.output, Nat.le_trans h.size k.size, fun j hj n1 n2 n3 => (k.block j (Nat.lt_of_lt_of_le hj h.size) (by rcases hr with rfl | rfl | rfl | rfl; simp; exact n1; exact n2; exact n3)).trans (h.block j hj n1 n2 n3)⟩
theorem kept_same {r1 r2 r3 : Option Nat} {w w' : World} {S : Nat → Prop} (h : Kept r1 r2 r3 w w') (hS : ∀ b, S b → b < w.heap.size ∧ some b ≠ r1 ∧ some b ≠ r2 ∧ some b ≠ r3) : Same S S w w' := fun b hb => ⟨hb, fun o => World.cell?_of_block (h.block b (hS b hb).1 (hS b hb).2.1 (hS b hb).2.2.1 (hS b hb).2.2.2)⟩
/-- The blocks from lo to hi. -/
def rng (lo hi : Nat) : Nat → Prop := fun b => lo ≤ b ∧ b < hi
theorem IsQ.rngG {w w' : World} {v : Value} {q : Rat} {lo hi : Nat} {r : Option Nat} (h : IsQ w (rng lo hi) v q) (hb : w.grownBy w' r) (hh : hi ≤ w.heap.size) (hr : ∀ b, r = some b → b < lo) : IsQ w' (rng lo hi) v q :=
  IsQ.stb.to h (same_grownS hb fun b hb' => ⟨Nat.lt_of_lt_of_le hb'.2 hh, fun e => by have := hr b e.symm; have := hb'.1; omega⟩)
theorem step_appG {P : Program} {w : World} {o : Oper} {a : Act} {K : Act → World → Prop} {Q : Exit → Act → World → Prop} {t e : TypeId} {n bytes : Nat} (El : ElN P t e n bytes) (s x : Operand) (ho : o.op = .call { callee := .builtin .append, args := #[s, x], argTypes := #[t, t] })
    {α : Type} {R : World → (Nat → Prop) → Value → α → Prop} (hR : Stb R) {base h : Nat} {S : Nat → Prop} {v ev : Value} {l : List α} {y : α} {te : TypeId}
    (hs : a.eval s = v) (hx : a.eval x = .slice (some ⟨h, 0, none⟩) 1 1) (hr : Row w h te ev.cells.toList) (hown : OwnS n e R w base S v l) (he : R w S ev y) (hn : ev.cells.size = n)
    (h1 : ∀ u ∈ ev.cells, u.oneCell' = true) (hb : (l.length + 1) * (bytes + 1) ≤ 140737488355328) (hbase : base ≤ w.heap.size)
    (hK : ∀ v' w', OwnS n e R w' base S v' (l ++ [y]) → w.grownBy w' v.ownBlock → (v'.ownBlock = v.ownBlock ∨ v'.ownBlock = some w.heap.size) → K (a.put o.dst v') w') : o.wp P a w K Q := by
  obtain ⟨i, z, hi, hz, hsz, hby, hzc⟩ := El.info
  obtain ⟨es, h1', h2, h3, h4⟩ := hown
  rw [Nat.mul_add, Nat.mul_one] at hb
  obtain ⟨v', w', hrun, g1, g2, _, g4⟩ := run_append_own_at (P := P) w base t o.type e i z n bytes El.und hi hz hsz hby hzc El.pos v l.length (cellsOf es) h1' ⟨h, 0, none⟩ 1 1 ev.cells.toList (by simp [hn])
    (fun j u hu => by rw [Addr.add_lit, Nat.zero_add, hr.cell j]; exact hu) (by simpa using h1) (by unfold maxLen; omega) (by omega) hbase
  unfold Oper.wp execOp
  simp only [ho, resolve, invoke, builtin, Sem.run_bind, Sem.run_pure, Result.andThen_ok, List.map_toArray, List.map_cons, List.map_nil, hs, hx, hrun]
  exact hK v' w' (OwnS.app hR h2 h3 h4 he hn g1 g2 g4) g2 g4
/-- What an operation of a region yields, a row of one element. -/
def NewRow (w : World) (n0 : Nat) (t : TypeId) (xs : List Value) (v : Value) : Prop := ∃ h, v = .slice (some ⟨h, 0, none⟩) 1 1 ∧ n0 ≤ h ∧ Row w h t xs
theorem NewRow.grown {w w' : World} {n0 : Nat} {t : TypeId} {xs : List Value} {v : Value} {r : Option Nat} (h : NewRow w n0 t xs v) (hb : w.grownBy w' r) (hr : ∀ b, r = some b → b < n0) : NewRow w' n0 t xs v := by
  obtain ⟨g, e, h1, h2⟩ := h
  exact ⟨g, e, h1, h2.grownN hb fun b e => by have := hr b e; omega⟩
theorem tmp_some {T : Array Value} {t : Nat} {v : Value} (h : T[t]? = some v) : T.getD t undef = v := by simp [Array.getD_eq_getD_getElem?, h]
theorem kept_grown {w wn W : World} {g : Nat} {r1 r2 : Option Nat} (h : w.grownBy wn (some g)) (k : Kept (some g) r1 r2 wn W) (h1 : ∀ b, r1 = some b → w.heap.size ≤ b) (h2 : ∀ b, r2 = some b → w.heap.size ≤ b) : w.grownBy W (some g) :=
  ⟨k.os.trans h.os, k.tape.trans h.tape, k.output.trans h.output, Nat.le_trans h.size k.size, fun j hj hr => (k.block j (Nat.lt_of_lt_of_le hj h.size) hr (fun e => by have := h1 j e.symm; omega) (fun e => by have := h2 j e.symm; omega)).trans (h.block j hj hr)⟩
theorem Row.kept {w w' : World} {g : Nat} {t : TypeId} {xs : List Value} {r1 r2 r3 : Option Nat} (h : Row w g t xs) (k : Kept r1 r2 r3 w w') (h1 : r1 ≠ some g) (h2 : r2 ≠ some g) (h3 : r3 ≠ some g) : Row w' g t xs := (k.block g h.lt (Ne.symm h1) (Ne.symm h2) (Ne.symm h3)).trans h
theorem grown_setF {w w' : World} {g n : Nat} (h : w.grownBy w' (some g)) (hn : w.heap.size ≤ n) (o : Nat) (u : Value) : w.grownBy (w'.setCell ⟨n, o, none⟩ u) (some g) :=
  ⟨h.os, h.tape, h.output, by rw [show (w'.setCell ⟨n, o, none⟩ u).heap.size = w'.heap.size by simp [World.setCell]]; exact h.size, fun k hk hr => (Below.heap_setCell w' ⟨n, o, none⟩ u k (fun e => by have : n = k := e.symm; omega)).trans (h.block k hk hr)⟩
end Go.Proofs.YtblpaocignlpkaaDoor
/-
  What the operations hold in the drawn regions of a function that draws a program.
-/
namespace Go.Proofs.YtblpaocignlpkaaDoor
open Go.RowKit
set_option linter.unusedVariables false

theorem own_ne {v va : Value} {n0 b : Nat} (h : v.ownBlock = va.ownBlock ∨ ∃ b, v.ownBlock = some b ∧ n0 ≤ b) (hb : b < n0) (hn : va.ownBlock ≠ some b) : v.ownBlock ≠ some b := by
  rcases h with h | ⟨c, h, hc⟩
  · rw [h]; exact hn
  · rw [h]
    intro e
    cases e
    omega
theorem low_upd {X : Nat → Option Value} {k : Nat} {u : Value} {lo : Nat} (h : ∃ u, X 4 = some u ∧ ∀ b, u.ownBlock = some b → b < lo) (hX : X k = none) : ∃ v, updX X k u 4 = some v ∧ ∀ b, v.ownBlock = some b → b < lo := by
  obtain ⟨v, h1, h2⟩ := h
  exact ⟨v, updX_some h1 hX, h2⟩
theorem low_next {X : Nat → Option Value} {k m n : Nat} {u : Value} (h : ∃ u, X 4 = some u ∧ ∀ b, u.ownBlock = some b → b < m) (hX : X k = none) (hm : m ≤ n) : ∃ v, updX X k u 4 = some v ∧ ∀ b, v.ownBlock = some b → b < n := by
  obtain ⟨v, h1, h2⟩ := h
  exact ⟨v, updX_some h1 hX, fun b hb => Nat.lt_of_lt_of_le (h2 b hb) hm⟩
/-- A number that the region has made. -/
def PRat (w : World) (n0 : Nat) (L : Nat → Prop) (v : Value) : Prop := ∃ q lo hi, Sz q 3 ∧ (n0 ≤ lo ∧ lo ≤ hi) ∧ hi ≤ w.heap.size ∧ L lo ∧ IsQ w (rng lo hi) v q
/-- .. and laid in a row. -/
def PRow (w : World) (n0 : Nat) (L : Nat → Prop) (v : Value) : Prop := ∃ q lo hi e, Sz q 3 ∧ (n0 ≤ lo ∧ lo ≤ hi) ∧ hi ≤ w.heap.size ∧ L lo ∧ IsQ w (rng lo hi) e q ∧ NewRow w n0 50 e.cells.toList v
/-- .. and appended to a row. -/
def PApp (w : World) (base n0 : Nat) (L : Nat → Prop) (S : Nat → Prop) (vb : Value) (l : List Raw) (v : Value) : Prop :=
  ∃ q lo hi, Sz q 3 ∧ (n0 ≤ lo ∧ lo ≤ hi) ∧ hi ≤ w.heap.size ∧ L lo ∧ OwnS 3 50 IsR w base (fun b => S b ∨ rng lo hi b) v (l ++ [raw q]) ∧ (v.ownBlock = vb.ownBlock ∨ ∃ b, v.ownBlock = some b ∧ hi ≤ b ∧ n0 ≤ b)
theorem PRat.grown {w w' : World} {n0 : Nat} {L M : Nat → Prop} {v : Value} {r : Option Nat} (h : PRat w n0 L v) (hb : w.grownBy w' r) (hr : ∀ b, r = some b → b < n0) (hL : ∀ lo, L lo → M lo) : PRat w' n0 M v := by
  obtain ⟨q, lo, hi, h1, h2, h3, h4, h5⟩ := h
  exact ⟨q, lo, hi, h1, h2, Nat.le_trans h3 hb.size, hL _ h4, h5.rngG hb h3 fun b e => Nat.lt_of_lt_of_le (hr b e) h2.1⟩
theorem PRow.grown {w w' : World} {n0 : Nat} {L M : Nat → Prop} {v : Value} {r : Option Nat} (h : PRow w n0 L v) (hb : w.grownBy w' r) (hr : ∀ b, r = some b → b < n0) (hL : ∀ lo, L lo → M lo) : PRow w' n0 M v := by
  obtain ⟨q, lo, hi, e, h1, h2, h3, h4, h5, h6⟩ := h
  exact ⟨q, lo, hi, e, h1, h2, Nat.le_trans h3 hb.size, hL _ h4, h5.rngG hb h3 fun b e => Nat.lt_of_lt_of_le (hr b e) h2.1, h6.grown hb hr⟩
theorem PApp.grown {w w' : World} {base n0 : Nat} {L M S : Nat → Prop} {vb v : Value} {l : List Raw} {r : Option Nat} (h : PApp w base n0 L S vb l v) (hb : w.grownBy w' r) (hr : ∀ b, r = some b → b < n0) (hv : ∀ b, r = some b → vb.ownBlock ≠ some b ∧ ¬ S b) (hL : ∀ lo, L lo → M lo) : PApp w' base n0 M S vb l v := by
  obtain ⟨q, lo, hi, h1, h2, h3, h4, h5, h6⟩ := h
  refine ⟨q, lo, hi, h1, h2, Nat.le_trans h3 hb.size, hL _ h4, h5.grown IsR.stb hb fun b e => ⟨own_ne (n0 := n0) (h6.imp id fun ⟨c, a, _, d⟩ => ⟨c, a, d⟩) (hr b e) (hv b e).1, fun h => ?_⟩, h6⟩
  rcases h with h | h
  · exact (hv b e).2 h
  · have := hr b e
    have := h.1
    omega
/-- The row into which an operation writes. -/
def blkAB (g : Nat) (va vb : Value) : Nat → Option Nat := fun k => match k with | 4 => va.ownBlock | 8 => some g | 11 => some g | 15 => vb.ownBlock | _ => none
def blkC (g : Nat) (vc : Value) : Nat → Option Nat := fun k => match k with | 3 => some g | 7 => vc.ownBlock | _ => none
/-- What each operation of a region holds. -/
def PhiAB (g P : Nat) (va vb : Value) (R : Option Addr) (m cR : Nat) (n0 base : Nat) (SA SB : Nat → Prop) (A : List (List Rat)) (B r : List Rat) (i : Nat) (v : Value) (w : World) (X : Nat → Option Value) : Prop :=
  match i with
  | 0 => v = .pointer (some ⟨P, 0, none⟩)
  | 1 => v = va
  | 2 => v = .slice R m cR
  | 3 => NewRow w n0 29 [.slice R m cR] v
  | 4 => (OwnS 1 29 IsV w base SA v (rawM A ++ [rawV r]) ∧ (v.ownBlock = va.ownBlock ∨ ∃ b, v.ownBlock = some b ∧ n0 ≤ b))
  | 5 => v = .pointer (some ⟨P, 1, none⟩)
  | 6 => v = vb
  | 7 => v = .pointer (some ⟨g, 0, none⟩)
  | 8 => (∃ x : Int, 0 ≤ x ∧ x ≤ 11 ∧ v = .int .i64 x) ∧ (∃ u, X 4 = some u ∧ ∀ b, u.ownBlock = some b → b < w.heap.size)
  | 9 => (∃ x : Int, -3 ≤ x ∧ x ≤ 8 ∧ v = .int .i64 x)
  | 10 => v = .pointer (some ⟨g, 0, none⟩)
  | 11 => (∃ x : Int, 0 ≤ x ∧ x ≤ 1 ∧ v = .int .i64 x) ∧ (∃ u, X 4 = some u ∧ ∀ b, u.ownBlock = some b → b < w.heap.size)
  | 12 => (∃ x : Int, 1 ≤ x ∧ x ≤ 2 ∧ v = .int .i64 x)
  | 13 => PRat w n0 (fun lo => ∃ u, X 4 = some u ∧ ∀ b, u.ownBlock = some b → b < lo) v
  | 14 => PRow w n0 (fun lo => ∃ u, X 4 = some u ∧ ∀ b, u.ownBlock = some b → b < lo) v
  | 15 => PApp w base n0 (fun lo => ∃ u, X 4 = some u ∧ ∀ b, u.ownBlock = some b → b < lo) SB vb (rawV B) v
  | 16 => v = .pointer (some ⟨P, 0, none⟩)
  | _ => True
/-- What each operation of a region holds. -/
def PhiC (g P : Nat) (vc : Value) (n0 base : Nat) (SC : Nat → Prop) (C : List Rat) (i : Nat) (v : Value) (w : World) (X : Nat → Option Value) : Prop :=
  match i with
  | 0 => v = .pointer (some ⟨P, 2, none⟩)
  | 1 => v = vc
  | 2 => v = .pointer (some ⟨g, 0, none⟩)
  | 3 => (∃ x : Int, 0 ≤ x ∧ x ≤ 8 ∧ v = .int .i64 x)
  | 4 => (∃ x : Int, -5 ≤ x ∧ x ≤ 3 ∧ v = .int .i64 x)
  | 5 => PRat w n0 (fun _ => True) v
  | 6 => PRow w n0 (fun _ => True) v
  | 7 => PApp w base n0 (fun _ => True) SC vc (rawV C) v
  | _ => True
theorem phiAB_st {g P : Nat} {va vb : Value} {R : Option Addr} {m cR : Nat} {n0 base : Nat} {SA SB : Nat → Prop} {A : List (List Rat)} {B r : List Rat} (hb : ∀ k b, blkAB g va vb k = some b → b < n0 ∧ (k ≠ 4 → va.ownBlock ≠ some b ∧ ¬ SA b) ∧ (k ≠ 15 → vb.ownBlock ≠ some b ∧ ¬ SB b)) :
    ∀ i k v w w' X u, i ≠ k → X k = none → PhiAB g P va vb R m cR n0 base SA SB A B r i v w X → w.grownBy w' (blkAB g va vb k) → PhiAB g P va vb R m cR n0 base SA SB A B r i v w' (updX X k u) := fun i k v w w' X u hik hX h hE => match i, hik, h with
  | 0, hik, h => h
  | 1, hik, h => h
  | 2, hik, h => h
  | 3, hik, h => h.grown hE fun b e => (hb k b e).1
  | 4, hik, h => ⟨h.1.grown IsV.stb hE fun b e => ⟨own_ne h.2 (hb k b e).1 ((hb k b e).2.1 (Ne.symm hik)).1, ((hb k b e).2.1 (Ne.symm hik)).2⟩, h.2⟩
  | 5, hik, h => h
  | 6, hik, h => h
  | 7, hik, h => h
  | 8, hik, h => ⟨h.1, low_next h.2 hX hE.size⟩
  | 9, hik, h => h
  | 10, hik, h => h
  | 11, hik, h => ⟨h.1, low_next h.2 hX hE.size⟩
  | 12, hik, h => h
  | 13, hik, h => h.grown hE (fun b e => (hb k b e).1) (fun lo h => low_upd h hX)
  | 14, hik, h => h.grown hE (fun b e => (hb k b e).1) (fun lo h => low_upd h hX)
  | 15, hik, h => h.grown hE (fun b e => (hb k b e).1) (fun b e => (hb k b e).2.2 (Ne.symm hik)) (fun lo h => low_upd h hX)
  | 16, hik, h => h
  | _ + 17, _, _ => trivial
theorem phiC_st {g P : Nat} {vc : Value} {n0 base : Nat} {SC : Nat → Prop} {C : List Rat} (hb : ∀ k b, blkC g vc k = some b → b < n0 ∧ (k ≠ 7 → vc.ownBlock ≠ some b ∧ ¬ SC b)) :
    ∀ i k v w w' X u, i ≠ k → X k = none → PhiC g P vc n0 base SC C i v w X → w.grownBy w' (blkC g vc k) → PhiC g P vc n0 base SC C i v w' (updX X k u) := fun i k v w w' X u hik hX h hE => match i, hik, h with
  | 0, hik, h => h
  | 1, hik, h => h
  | 2, hik, h => h
  | 3, hik, h => h
  | 4, hik, h => h
  | 5, hik, h => h.grown hE (fun b e => (hb k b e).1) (fun _ h => h)
  | 6, hik, h => h.grown hE (fun b e => (hb k b e).1) (fun _ h => h)
  | 7, hik, h => h.grown hE (fun b e => (hb k b e).1) (fun b e => (hb k b e).2 (Ne.symm hik)) (fun _ h => h)
  | _ + 8, _, _ => trivial
/-- What must hold ahead of the appends. -/
def PreAB (base : Nat) (va vb vr : Value) (SA SB : Nat → Prop) (A : List (List Rat)) (B r : List Rat) (i : Nat) (w : World) : Prop := (i = 4 → OwnS 1 29 IsV w base SA va (rawM A) ∧ IsV w SA vr (rawV r)) ∧ (i = 15 → OwnS 3 50 IsR w base SB vb (rawV B))
def PreC (base : Nat) (vc : Value) (SC : Nat → Prop) (C : List Rat) (i : Nat) (w : World) : Prop := i = 7 → OwnS 3 50 IsR w base SC vc (rawV C)
/-- What holds all the time in these regions. -/
def JD (g P : Nat) (l : List Int) (xs : List Value) (r1 r2 : Option Nat) (wn : World) (w : World) : Prop := IsD w g l ∧ Row w P 31 xs ∧ Kept (some g) r1 r2 wn w
theorem JD.step {g P : Nat} {l : List Int} {xs : List Value} {r1 r2 : Option Nat} {wn w w' : World} {r : Option Nat} (h : JD g P l xs r1 r2 wn w) (hE : w.grownBy w' r) (hr : r = none ∨ r = r1 ∨ r = r2) (hg : ∀ b, r = some b → g < b ∧ P ≠ b) : JD g P l xs r1 r2 wn w' :=
  ⟨h.1.grownN hE fun b e => (hg b e).1, h.2.1.grownN hE fun b e => (hg b e).2, h.2.2.step hE (by rcases hr with h | h | h; exact .inl h; exact .inr (.inr (.inl h)); exact .inr (.inr (.inr h)))⟩
theorem JD.draw {g P : Nat} {l : List Int} {xs : List Value} {r1 r2 : Option Nat} {wn w w' : World} (h : JD g P l xs r1 r2 wn w) (hD : IsD w' g l) (hO : Only g w w') (hP : P ≠ g) : JD g P l xs r1 r2 wn w' :=
  ⟨hD, h.2.1.only hO hP, h.2.2.step hO.grown (.inr (.inl rfl))⟩
end Go.Proofs.YtblpaocignlpkaaDoor
