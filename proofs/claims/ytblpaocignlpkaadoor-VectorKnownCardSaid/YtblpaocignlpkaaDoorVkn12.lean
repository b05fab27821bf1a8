/-
  A matrix of whole numbers that is changed in place, in memory: its rows lie in blocks of their own.
-/
import Derived.Test.YtblpaocignlpkaaDoorVkn11
import Derived.Test.YtblpaocignlpkaaDoorVkn09
import Derived.BigRegion
import Derived.Test.YtblpaocignlpkaaDoorVkn10
import Derived.Test.YtblpaocignlpkaaDoorVkn02
import Derived.Test.YtblpaocignlpkaaDoorVkn07
namespace Go.Proofs.YtblpaocignlpkaaDoor
open Go.RowKit
set_option linter.unusedVariables false
structure MatW (w : World) (S : Nat → Prop) (r0 : Nat) (rb cp : Nat → Nat) (n m : Nat) (A : Nat → Nat → Int) : Prop where
  hd : ∀ i, i < n → w.cell? ⟨r0, i, none⟩ = some (.slice (some ⟨rb i, 0, none⟩) m (cp i))
  hf : ∀ i, i < n → w.frozen? ⟨r0, i, none⟩ = false
  cap : ∀ i, i < n → m ≤ cp i ∧ cp i ≤ maxLen
  el : ∀ i j, i < n → j < m → ∃ P k Q l, w.cell? ⟨rb i, j * 3, none⟩ = some (.bool (decide (A i j < 0))) ∧ w.cell? ⟨rb i, j * 3 + 1, none⟩ = some (.slice P (lim (A i j).natAbs).length k) ∧ w.cell? ⟨rb i, j * 3 + 2, none⟩ = some (.slice Q (lim 1).length l) ∧
    IsQ w S (.agg #[.bool (decide (A i j < 0)), .slice P (lim (A i j).natAbs).length k, .slice Q (lim 1).length l]) ((A i j : Int) : Rat)
  ef : ∀ i o, i < n → o < m * 3 → w.frozen? ⟨rb i, o, none⟩ = false
  inj : ∀ i k, i < n → k < n → rb i = rb k → i = k
  sep : ∀ i, i < n → rb i ≠ r0 ∧ ¬ S (rb i) ∧ rb i < w.heap.size
  s0 : ¬ S r0 ∧ r0 < w.heap.size
  sS : ∀ b, S b → b < w.heap.size
theorem MatW.keep {w w' : World} {S T : Nat → Prop} {r0 : Nat} {rb cp : Nat → Nat} {n m : Nat} {A : Nat → Nat → Int} (h : MatW w S r0 rb cp n m A) (hsz : w.heap.size ≤ w'.heap.size)
    (h0 : w'.heap[r0]? = w.heap[r0]?) (hr : ∀ i, i < n → w'.heap[rb i]? = w.heap[rb i]?) (hS : ∀ b, S b → w'.heap[b]? = w.heap[b]?)
    (hST : ∀ b, S b → T b) (hT : ∀ b, T b → S b ∨ (w.heap.size ≤ b ∧ b < w'.heap.size)) : MatW w' T r0 rb cp n m A where
  hd i hi := (World.cell?_of_block h0).trans (h.hd i hi)
  hf i hi := (World.frozen?_of_block h0).trans (h.hf i hi)
  cap := h.cap
  el i j hi hj := by
    obtain ⟨P, k, Q, l, h1, h2, h3, h4⟩ := h.el i j hi hj
    exact ⟨P, k, Q, l, (World.cell?_of_block (hr i hi)).trans h1, (World.cell?_of_block (hr i hi)).trans h2, (World.cell?_of_block (hr i hi)).trans h3, IsQ.stb.to h4 fun b hb => ⟨hST b hb, fun o => World.cell?_of_block (hS b hb)⟩⟩
  ef i o hi ho := (World.frozen?_of_block (hr i hi)).trans (h.ef i o hi ho)
  inj := h.inj
  sep i hi := by
    obtain ⟨h1, h2, h3⟩ := h.sep i hi
    exact ⟨h1, fun h => by rcases hT _ h with h | h; exact h2 h; omega, by omega⟩
  s0 := ⟨fun h' => by rcases hT _ h' with h' | h'; exact h.s0.1 h'; have := h.s0.2; omega, by have := h.s0.2; omega⟩
  sS b hb := by
    rcases hT b hb with h' | h'
    · have := h.sS b h'; omega
    · exact h'.2
theorem MatW.next {w w' : World} {S T : Nat → Prop} {r0 : Nat} {rb cp : Nat → Nat} {n m : Nat} {A : Nat → Nat → Int} (h : MatW w S r0 rb cp n m A) (hb : Below w.heap.size w w')
    (hST : ∀ b, S b → T b) (hT : ∀ b, T b → S b ∨ (w.heap.size ≤ b ∧ b < w'.heap.size)) : MatW w' T r0 rb cp n m A :=
  h.keep hb.size (hb.block _ h.s0.2) (fun i hi => hb.block _ (h.sep i hi).2.2) (fun b hb' => hb.block _ (h.sS b hb')) hST hT
theorem zde (w : World) (p : Addr) (u : Value) : (w.setCell p u).heap.size = w.heap.size := by simp [World.setCell]
abbrev putE (w : World) (b j : Nat) (x y z : Value) : World := ((w.setCell ⟨b, j * 3, none⟩ x).setCell ⟨b, j * 3 + 1, none⟩ y).setCell ⟨b, j * 3 + 2, none⟩ z
theorem zdj {w : World} {b j : Nat} {x y z : Value} {c o : Nat} (h : c ≠ b ∨ o < j * 3 ∨ j * 3 + 3 ≤ o) : (putE w b j x y z).cell? ⟨c, o, none⟩ = w.cell? ⟨c, o, none⟩ := by
  unfold putE
  rw [World.cell?_setCell_other _ _ _ _ (fun e => by injection e with h1 h2; omega), World.cell?_setCell_other _ _ _ _ (fun e => by injection e with h1 h2; omega), World.cell?_setCell_other _ _ _ _ (fun e => by injection e with h1 h2; omega)]
theorem putE_cells {w : World} {b j : Nat} {x y z x' y' z' : Value} (h0 : w.cell? ⟨b, j * 3, none⟩ = some x') (h1 : w.cell? ⟨b, j * 3 + 1, none⟩ = some y') (h2 : w.cell? ⟨b, j * 3 + 2, none⟩ = some z') :
    (putE w b j x y z).cell? ⟨b, j * 3, none⟩ = some x ∧ (putE w b j x y z).cell? ⟨b, j * 3 + 1, none⟩ = some y ∧ (putE w b j x y z).cell? ⟨b, j * 3 + 2, none⟩ = some z := by
  unfold putE
  refine ⟨?_, ?_, ?_⟩
  · rw [World.cell?_setCell_other _ _ _ _ (fun e => by injection e with h1 h2; omega), World.cell?_setCell_other _ _ _ _ (fun e => by injection e with h1 h2; omega)]
    exact World.cell?_setCell_same _ _ _ h0
  · rw [World.cell?_setCell_other _ _ _ _ (fun e => by injection e with h1 h2; omega)]
    refine World.cell?_setCell_same _ _ _ (u := y') ?_
    rw [World.cell?_setCell_other _ _ _ _ (fun e => by injection e with h1 h2; omega)]
    exact h1
  · refine World.cell?_setCell_same _ _ _ (u := z') ?_
    rw [World.cell?_setCell_other _ _ _ _ (fun e => by injection e with h1 h2; omega), World.cell?_setCell_other _ _ _ _ (fun e => by injection e with h1 h2; omega)]
    exact h2
theorem putE_frozen {w : World} {b j : Nat} {x y z : Value} (p : Addr) : (putE w b j x y z).frozen? p = w.frozen? p := by unfold putE; simp
theorem zeh {w : World} {b j : Nat} {x y z : Value} : (putE w b j x y z).heap.size = w.heap.size := by unfold putE; rw [zde, zde, zde]
def updM (A : Nat → Nat → Int) (i j : Nat) (z : Int) : Nat → Nat → Int := fun a b => if a = i ∧ b = j then z else A a b
theorem MatW.put {w : World} {S : Nat → Prop} {r0 : Nat} {rb cp : Nat → Nat} {n m : Nat} {A : Nat → Nat → Int} (h : MatW w S r0 rb cp n m A) {i j : Nat} (hi : i < n) (hj : j < m) {z : Int} {P Q : Option Addr} {k l : Nat}
    (hq : IsQ w S (.agg #[.bool (decide (z < 0)), .slice P (lim z.natAbs).length k, .slice Q (lim 1).length l]) ((z : Int) : Rat)) :
    MatW (putE w (rb i) j (.bool (decide (z < 0))) (.slice P (lim z.natAbs).length k) (.slice Q (lim 1).length l)) S r0 rb cp n m (updM A i j z) where
  hd a ha := (zdj (.inl (Ne.symm (h.sep i hi).1))).trans (h.hd a ha)
  hf a ha := (putE_frozen _).trans (h.hf a ha)
  cap := h.cap
  el a b ha hb := by
    have hS : Same S S w (putE w (rb i) j (.bool (decide (z < 0))) (.slice P (lim z.natAbs).length k) (.slice Q (lim 1).length l)) := fun c hc => ⟨hc, fun o => zdj (.inl fun e => (h.sep i hi).2.1 (by rw [← e]; exact hc))⟩
    by_cases hab : a = i ∧ b = j
    · obtain ⟨rfl, rfl⟩ := hab
      obtain ⟨P', k', Q', l', h1, h2, h3, _⟩ := h.el a b ha hb
      obtain ⟨e1, e2, e3⟩ := putE_cells (x := .bool (decide (z < 0))) (y := .slice P (lim z.natAbs).length k) (z := .slice Q (lim 1).length l) h1 h2 h3
      have hz : updM A a b z a b = z := by unfold updM; rw [if_pos ⟨rfl, rfl⟩]
      rw [hz]
      exact ⟨P, k, Q, l, e1, e2, e3, IsQ.stb.to hq hS⟩
    · obtain ⟨P', k', Q', l', h1, h2, h3, h4⟩ := h.el a b ha hb
      have hz : updM A i j z a b = A a b := by unfold updM; rw [if_neg hab]
      have hne : rb a ≠ rb i ∨ b < j ∨ j < b := by
        by_cases e : a = i
        · have : b ≠ j := fun e' => hab ⟨e, e'⟩
          omega
        · exact .inl fun e' => e (h.inj a i ha hi e')
      rw [hz]
      exact ⟨P', k', Q', l', (zdj (by omega)).trans h1, (zdj (by omega)).trans h2, (zdj (by omega)).trans h3, IsQ.stb.to h4 hS⟩
  ef a o ha ho := (putE_frozen _).trans (h.ef a o ha ho)
  inj := h.inj
  sep a ha := ⟨(h.sep a ha).1, (h.sep a ha).2.1, by rw [zeh]; exact (h.sep a ha).2.2⟩
  s0 := ⟨h.s0.1, by rw [zeh]; exact h.s0.2⟩
  sS b hb := by rw [zeh]; exact h.sS b hb
def swF {α : Type} (f : Nat → α) (i k : Nat) : Nat → α := fun a => if a = i then f k else if a = k then f i else f a
theorem swF_i {α : Type} (f : Nat → α) (i k : Nat) : swF f i k i = f k := if_pos rfl
theorem swF_k {α : Type} (f : Nat → α) (i k : Nat) : swF f i k k = f i := by
  unfold swF
  split
  · rename_i h; rw [h]
  · rw [if_pos rfl]
theorem swF_o {α : Type} (f : Nat → α) {i k a : Nat} (h1 : a ≠ i) (h2 : a ≠ k) : swF f i k a = f a := by unfold swF; rw [if_neg h1, if_neg h2]
theorem swF_same {α : Type} (f : Nat → α) (i : Nat) : swF f i i = f := by
  funext a
  unfold swF
  split
  · rename_i h; rw [h]
  · rfl
theorem MatW.swap {w : World} {S : Nat → Prop} {r0 : Nat} {rb cp : Nat → Nat} {n m : Nat} {A : Nat → Nat → Int} (h : MatW w S r0 rb cp n m A) {i k : Nat} (hi : i < n) (hk : k < n) (hik : i ≠ k) :
    MatW ((w.setCell ⟨r0, i, none⟩ (.slice (some ⟨rb k, 0, none⟩) m (cp k))).setCell ⟨r0, k, none⟩ (.slice (some ⟨rb i, 0, none⟩) m (cp i))) S r0 (swF rb i k) (swF cp i k) n m (swF A i k) := by
  have oth : ∀ b o, b ≠ r0 → ((w.setCell ⟨r0, i, none⟩ (.slice (some ⟨rb k, 0, none⟩) m (cp k))).setCell ⟨r0, k, none⟩ (.slice (some ⟨rb i, 0, none⟩) m (cp i))).cell? ⟨b, o, none⟩ = w.cell? ⟨b, o, none⟩ := fun b o hb => by
    rw [World.cell?_setCell_other _ _ _ _ (fun e => by injection e with h1 h2; exact hb h1.symm), World.cell?_setCell_other _ _ _ _ (fun e => by injection e with h1 h2; exact hb h1.symm)]
  have cases3 : ∀ a, a < n → a = i ∨ a = k ∨ (a ≠ i ∧ a ≠ k) := fun a _ => by omega
  refine ⟨fun a ha => ?_, fun a ha => ?_, fun a ha => ?_, fun a b ha hb => ?_, fun a o ha ho => ?_, fun a b ha hb he => ?_, fun a ha => ?_, ⟨h.s0.1, by rw [zde, zde]; exact h.s0.2⟩, fun b hb => by rw [zde, zde]; exact h.sS b hb⟩
  · rcases cases3 a ha with rfl | rfl | ⟨h1, h2⟩
    · rw [swF_i, swF_i, World.cell?_setCell_other _ _ _ _ (fun e => by injection e with h1 h2; omega)]
      exact World.cell?_setCell_same _ _ _ (h.hd _ hi)
    · rw [swF_k, swF_k]
      refine World.cell?_setCell_same _ _ _ (u := .slice (some ⟨rb a, 0, none⟩) m (cp a)) ?_
      rw [World.cell?_setCell_other _ _ _ _ (fun e => by injection e with h1 h2; omega)]
      exact h.hd _ hk
    · rw [swF_o _ h1 h2, swF_o _ h1 h2, World.cell?_setCell_other _ _ _ _ (fun e => by injection e with h3 h4; omega), World.cell?_setCell_other _ _ _ _ (fun e => by injection e with h3 h4; omega)]
      exact h.hd a ha
  · simp only [World.frozen?_setCell]; exact h.hf a ha
  · rcases cases3 a ha with rfl | rfl | ⟨h1, h2⟩
    · rw [swF_i]; exact h.cap _ hk
    · rw [swF_k]; exact h.cap _ hi
    · rw [swF_o _ h1 h2]; exact h.cap _ ha
  · have hS : Same S S w ((w.setCell ⟨r0, i, none⟩ (.slice (some ⟨rb k, 0, none⟩) m (cp k))).setCell ⟨r0, k, none⟩ (.slice (some ⟨rb i, 0, none⟩) m (cp i))) := fun c hc => ⟨hc, fun o => oth c o fun e => h.s0.1 (by rw [← e]; exact hc)⟩
    rcases cases3 a ha with rfl | rfl | ⟨h1, h2⟩
    · rw [swF_i, swF_i]
      obtain ⟨P, k', Q, l, e1, e2, e3, e4⟩ := h.el _ b hk hb
      exact ⟨P, k', Q, l, (oth _ _ (h.sep _ hk).1).trans e1, (oth _ _ (h.sep _ hk).1).trans e2, (oth _ _ (h.sep _ hk).1).trans e3, IsQ.stb.to e4 hS⟩
    · rw [swF_k, swF_k]
      obtain ⟨P, k', Q, l, e1, e2, e3, e4⟩ := h.el _ b hi hb
      exact ⟨P, k', Q, l, (oth _ _ (h.sep _ hi).1).trans e1, (oth _ _ (h.sep _ hi).1).trans e2, (oth _ _ (h.sep _ hi).1).trans e3, IsQ.stb.to e4 hS⟩
    · rw [swF_o _ h1 h2, swF_o _ h1 h2]
      obtain ⟨P, k', Q, l, e1, e2, e3, e4⟩ := h.el _ b ha hb
      exact ⟨P, k', Q, l, (oth _ _ (h.sep _ ha).1).trans e1, (oth _ _ (h.sep _ ha).1).trans e2, (oth _ _ (h.sep _ ha).1).trans e3, IsQ.stb.to e4 hS⟩
  · simp only [World.frozen?_setCell]
    rcases cases3 a ha with rfl | rfl | ⟨h1, h2⟩
    · rw [swF_i]; exact h.ef _ _ hk ho
    · rw [swF_k]; exact h.ef _ _ hi ho
    · rw [swF_o _ h1 h2]; exact h.ef _ _ ha ho
  · rcases cases3 a ha with rfl | rfl | ⟨h1, h2⟩ <;> rcases cases3 b hb with rfl | rfl | ⟨h3, h4⟩
    · rfl
    · rw [swF_i, swF_k] at he; exact absurd (h.inj _ _ hk hi he) (by omega)
    · rw [swF_i, swF_o _ h3 h4] at he; exact absurd (h.inj _ _ hk hb he) (by omega)
    · rw [swF_k, swF_i] at he; exact absurd (h.inj _ _ hi hk he) (by omega)
    · rfl
    · rw [swF_k, swF_o _ h3 h4] at he; exact absurd (h.inj _ _ hi hb he) (by omega)
    · rw [swF_o _ h1 h2, swF_i] at he; exact absurd (h.inj _ _ ha hk he) (by omega)
    · rw [swF_o _ h1 h2, swF_k] at he; exact absurd (h.inj _ _ ha hi he) (by omega)
    · rw [swF_o _ h1 h2, swF_o _ h3 h4] at he; exact h.inj _ _ ha hb he
  · rw [zde, zde]
    rcases cases3 a ha with rfl | rfl | ⟨h1, h2⟩
    · rw [swF_i]; exact h.sep _ hk
    · rw [swF_k]; exact h.sep _ hi
    · rw [swF_o _ h1 h2]; exact h.sep _ ha
theorem MatW.cells {w w' : World} {S : Nat → Prop} {r0 : Nat} {rb cp : Nat → Nat} {n m : Nat} {A : Nat → Nat → Int} (h : MatW w S r0 rb cp n m A) (hc : ∀ b o, w'.cell? ⟨b, o, none⟩ = w.cell? ⟨b, o, none⟩) (hf : ∀ p, w'.frozen? p = w.frozen? p) (hs : w'.heap.size = w.heap.size) : MatW w' S r0 rb cp n m A where
  hd i hi := (hc _ _).trans (h.hd i hi)
  hf i hi := (hf _).trans (h.hf i hi)
  cap := h.cap
  el i j hi hj := by
    obtain ⟨P, k, Q, l, h1, h2, h3, h4⟩ := h.el i j hi hj
    exact ⟨P, k, Q, l, (hc _ _).trans h1, (hc _ _).trans h2, (hc _ _).trans h3, IsQ.stb.to h4 fun b hb => ⟨hb, fun o => hc _ _⟩⟩
  ef i o hi ho := (hf _).trans (h.ef i o hi ho)
  inj := h.inj
  sep i hi := by rw [hs]; exact h.sep i hi
  s0 := by rw [hs]; exact h.s0
  sS b hb := by rw [hs]; exact h.sS b hb
theorem setCell_id {w : World} {b o : Nat} {v : Value} (h : w.cell? ⟨b, o, none⟩ = some v) (c p : Nat) : (w.setCell ⟨b, o, none⟩ v).cell? ⟨c, p, none⟩ = w.cell? ⟨c, p, none⟩ := by
  by_cases e : (⟨b, o, none⟩ : Addr) = ⟨c, p, none⟩
  · rw [← e, h]
    exact World.cell?_setCell_same _ _ _ h
  · exact World.cell?_setCell_other _ _ _ _ e
set_option maxRecDepth 100000 in
set_option maxHeartbeats 4000000 in
theorem swap_s {w : World} {S : Nat → Prop} {g r0 c0 : Nat} {rb cp : Nat → Nat} {n m : Nat} {A : Nat → Nat → Int} {y z : Value} {i k : Nat} (hM : MatW w S r0 rb cp n m A) (hg : Row w g 110 [.slice (some ⟨r0, 0, none⟩) n c0, y, z])
    (hn : n ≤ 100) (hi : i < n) (hk : k < n) (v : Int) :
    Calls Tryd.prog 103 #[.pointer (some ⟨g, 0, none⟩), .int .i64 (i : Int), .int .i64 (k : Int), .int .i64 v] w fun e w' => e = .returned (.tuple #[]) ∧ MatW w' S r0 (swF rb i k) (swF cp i k) n m (swF A i k) ∧ Only r0 w w' := by
  have HM := Lib.hid hM
  have g0 := hg.cell 0
  simp at g0
  have hi0 : (0 : Int) ≤ (i : Int) := by omega
  have hi1 : (i : Int) < (n : Int) := by omega
  have hk0 : (0 : Int) ≤ (k : Int) := by omega
  have hk1 : (k : Int) < (n : Int) := by omega
  have ci := hM.hd i hi
  have ck := hM.hd k hk
  have fi := hM.hf i hi
  have fk := hM.hf k hk
  by_cases hik : i = k
  · subst hik
    obtain ⟨Vi, hVi⟩ : ∃ v, v = rb i := ⟨_, rfl⟩
    obtain ⟨Ci, hCi⟩ : ∃ v, v = cp i := ⟨_, rfl⟩
    rw [← hVi, ← hCi] at ci
    have CI := Lib.hid ci
    have dk : (w.setCell ⟨r0, i, none⟩ (.slice (some ⟨Vi, 0, none⟩) m Ci)).cell? ⟨r0, i, none⟩ = some (.slice (some ⟨Vi, 0, none⟩) m Ci) := World.cell?_setCell_same _ _ _ ci
    have DK := Lib.hid dk
    clear hM hg hVi hCi hk0 hk1 ck fk
    go_enter Tryd.func103, Tryd.ntmps103
    go_wp2_with fail
    go_region
    go_wp2_with fail
    refine bodyPost_end (results_none rfl _ _ _) rfl ?_
    rw [swF_same, swF_same, swF_same]
    refine ⟨rfl, ?_, ((Only.refl r0 w).setCell i _).setCell i _ |>.drewN 1⟩
    exact HM.out.cells (fun b o => (setCell_id DK.out b o).trans (setCell_id CI.out b o)) (fun p => by show ((w.setCell _ _).setCell _ _).frozen? p = _; simp) (by show ((w.setCell _ _).setCell _ _).heap.size = _; rw [zde, zde])
  · have HIK := Lib.hid hik
    obtain ⟨Vi, hVi⟩ : ∃ v, v = rb i := ⟨_, rfl⟩
    obtain ⟨Vk, hVk⟩ : ∃ v, v = rb k := ⟨_, rfl⟩
    obtain ⟨Ci, hCi⟩ : ∃ v, v = cp i := ⟨_, rfl⟩
    obtain ⟨Ck, hCk⟩ : ∃ v, v = cp k := ⟨_, rfl⟩
    rw [← hVi, ← hCi] at ci
    rw [← hVk, ← hCk] at ck
    have H1 := Lib.hid (And.intro hVi (And.intro hVk (And.intro hCi hCk)))
    have dk : (w.setCell ⟨r0, i, none⟩ (.slice (some ⟨Vk, 0, none⟩) m Ck)).cell? ⟨r0, k, none⟩ = some (.slice (some ⟨Vk, 0, none⟩) m Ck) := by
      rw [World.cell?_setCell_other _ _ _ _ (fun e => by injection e with h1 h2; omega)]
      exact ck
    clear hM hg hVi hVk hCi hCk hik
    go_enter Tryd.func103, Tryd.ntmps103
    go_wp2_with fail
    go_region
    go_wp2_with fail
    refine bodyPost_end (results_none rfl _ _ _) rfl ?_
    refine ⟨rfl, ?_, ((Only.refl r0 w).setCell i _).setCell k _ |>.drewN 1⟩
    have h := HM.out.swap hi hk HIK.out
    rw [← H1.out.1, ← H1.out.2.1, ← H1.out.2.2.1, ← H1.out.2.2.2] at h
    exact h.cells (fun b o => rfl) (fun p => rfl) rfl
theorem zat {w : World} {b o c j : Nat} {v x y z : Value} (h : w.cell? ⟨b, o, none⟩ = some v) (hb : b ≠ c) : (putE w c j x y z).cell? ⟨b, o, none⟩ = some v := (zdj (.inl hb)).trans h
theorem zea {w w' : World} {c j : Nat} {x y z : Value} (h : w.grownBy w' (some c)) : w.grownBy (putE w' c j x y z) (some c) := zbj (zbj (zbj h (zcj _ _ _ _)) (zcj _ _ _ _)) (zcj _ _ _ _)
def SN (S : Nat → Prop) (lo : Nat) (w : World) : Nat → Prop := fun b => S b ∨ (lo ≤ b ∧ b < w.heap.size)
theorem MatW.grow {w w' : World} {S : Nat → Prop} {lo r0 : Nat} {rb cp : Nat → Nat} {n m : Nat} {A : Nat → Nat → Int} (h : MatW w (SN S lo w) r0 rb cp n m A) (hlo : lo ≤ w.heap.size) (hb : Below w.heap.size w w') : MatW w' (SN S lo w') r0 rb cp n m A :=
  h.next hb (fun b hb' => by rcases hb' with h' | h'; exact .inl h'; exact .inr ⟨h'.1, Nat.lt_of_lt_of_le h'.2 hb.size⟩) fun b hb' => by
    rcases hb' with h' | h'
    · exact .inl (.inl h')
    · rcases Nat.lt_or_ge b w.heap.size with h1 | h1
      · exact .inl (.inr ⟨h'.1, h1⟩)
      · exact .inr ⟨h1, h'.2⟩
theorem MatW.start {w : World} {S : Nat → Prop} {r0 : Nat} {rb cp : Nat → Nat} {n m : Nat} {A : Nat → Nat → Int} (h : MatW w S r0 rb cp n m A) : MatW w (SN S w.heap.size w) r0 rb cp n m A :=
  h.next (Below.refl _ _) (fun b hb => .inl hb) fun b hb => by
    rcases hb with h' | h'
    · exact .inl h'
    · omega
theorem MatW.same {w : World} {S : Nat → Prop} {r0 : Nat} {rb cp : Nat → Nat} {n m : Nat} {A B : Nat → Nat → Int} (h : MatW w S r0 rb cp n m A) (hAB : ∀ i j, i < n → j < m → A i j = B i j) : MatW w S r0 rb cp n m B :=
  ⟨h.hd, h.hf, h.cap, fun i j hi hj => by rw [← hAB i j hi hj]; exact h.el i j hi hj, h.ef, h.inj, h.sep, h.s0, h.sS⟩
def negTo (A : Nat → Nat → Int) (i j : Nat) : Nat → Nat → Int := fun a b => if a = i ∧ b < j then -A a b else A a b
theorem negTo_zero (A : Nat → Nat → Int) (i : Nat) : negTo A i 0 = A := by funext a b; unfold negTo; rw [if_neg (by omega)]
theorem negTo_at (A : Nat → Nat → Int) (i j : Nat) : negTo A i j i j = A i j := by unfold negTo; rw [if_neg (by omega)]
theorem negTo_succ (A : Nat → Nat → Int) (i j : Nat) (a b : Nat) : updM (negTo A i j) i j (-A i j) a b = negTo A i (j + 1) a b := by
  unfold updM negTo
  by_cases h : a = i ∧ b = j
  · obtain ⟨rfl, rfl⟩ := h
    rw [if_pos ⟨rfl, rfl⟩, if_pos ⟨rfl, by omega⟩]
  · rw [if_neg h]
    by_cases h2 : a = i ∧ b < j
    · rw [if_pos h2, if_pos ⟨h2.1, by omega⟩]
    · rw [if_neg h2, if_neg (by omega)]
def flipM (A : Nat → Nat → Int) (m i c : Nat) : Nat → Nat → Int := if 0 < A i c then A else negTo A i m
theorem isQ_int {w : World} {S : Nat → Prop} {v : Value} {z : Int} (h : IsQ w S v ((z : Int) : Rat)) : ∃ P k Q l, v = .agg #[.bool (decide (z < 0)), .slice P (lim z.natAbs).length k, .slice Q (lim 1).length l] := by
  obtain ⟨A, c, B, d, e, _, _⟩ := h
  rw [raw_int] at e
  exact ⟨A, c, B, d, e⟩
theorem int_lt0 (z : Int) : ((z : Rat) < 0) ↔ z < 0 := by
  have := num_lt (z : Rat)
  rw [Rat.num_intCast, decide_eq_decide] at this
  exact this.symm
theorem sgn_int (z : Int) : (decide (0 < sgnQ (z : Rat))) = decide (0 < z) := by
  unfold sgnQ
  rw [decide_eq_decide]
  rcases Int.lt_trichotomy z 0 with h | h | h
  · have h1 : ¬ ((z : Rat) = 0) := by simpa using (show z ≠ 0 by omega)
    have h2 : (z : Rat) < 0 := (int_lt0 z).2 h
    rw [if_neg h1, if_pos h2]
    omega
  · subst h
    rw [if_pos (by simp)]
  · have h1 : ¬ ((z : Rat) = 0) := by simpa using (show z ≠ 0 by omega)
    have h2 : ¬ ((z : Rat) < 0) := fun e => by have := (int_lt0 z).1 e; omega
    rw [if_neg h1, if_neg h2]
    omega
set_option maxRecDepth 100000 in
set_option maxHeartbeats 4000000 in
theorem flip_s {w : World} {S : Nat → Prop} {g r0 c0 : Nat} {rb cp : Nat → Nat} {n m : Nat} {A : Nat → Nat → Int} {y z : Value} {i c : Nat} (hM : MatW w S r0 rb cp n m A) (hg : Row w g 110 [.slice (some ⟨r0, 0, none⟩) n c0, y, z])
    (hgi : g ≠ rb i) (hn : n ≤ 100) (hm : m ≤ 100) (hi : i < n) (hc : c < m) (hs : ∀ b, b < m → Sz ((A i b : Int) : Rat) 100000) (v : Int) :
    Calls Tryd.prog 104 #[.pointer (some ⟨g, 0, none⟩), .int .i64 (i : Int), .int .i64 v, .int .i64 (c : Int)] w fun e w' => e = .returned (.tuple #[]) ∧ MatW w' (SN S w.heap.size w') r0 rb cp n m (flipM A m i c) ∧ w.grownBy w' (some (rb i)) := by
  have HM := Lib.hid hM
  have HG := Lib.hid hg
  have Hs := Lib.hid hs
  have Hgi := Lib.hid hgi
  have Hr0 := Lib.hid (hM.sep i hi).1
  have g0 := hg.cell 0
  simp at g0
  have hi0 : (0 : Int) ≤ (i : Int) := by omega
  have hi1 : (i : Int) < (n : Int) := by omega
  have hc0 : (0 : Int) ≤ (c : Int) := by omega
  have hc1 : (c : Int) < (m : Int) := by omega
  have ci := hM.hd i hi
  have cr := zbn
  have hcap := (hM.cap i hi)
  obtain ⟨P, k, Q, l, e0, e1, e2, eq⟩ := hM.el i c hi hc
  have QC := Lib.hid (IsQ.stb.to eq (zay (T := Old w) hM.sS))
  obtain ⟨V, hV⟩ : ∃ x, x = rb i := ⟨_, rfl⟩
  obtain ⟨C, hC⟩ : ∃ x, x = cp i := ⟨_, rfl⟩
  obtain ⟨x0, hx0⟩ : ∃ x, x = decide (A i c < 0) := ⟨_, rfl⟩
  obtain ⟨x1, hx1⟩ : ∃ x, x = (lim (A i c).natAbs).length := ⟨_, rfl⟩
  obtain ⟨x2, hx2⟩ : ∃ x, x = (lim 1).length := ⟨_, rfl⟩
  rw [← hV] at ci e0 e1 e2 Hgi Hr0 ⊢
  rw [← hC] at ci hcap
  rw [← hx0] at e0 QC
  rw [← hx1] at e1 QC
  rw [← hx2] at e2 QC
  have HV := Lib.hid hV
  have HC := Lib.hid hC
  have hVs : V < w.heap.size := by rw [hV]; exact (hM.sep i hi).2.2
  have HVs := Lib.hid hVs
  have Hx2 := Lib.hid hx2
  obtain ⟨t, ht⟩ : ∃ t : Bool, t = decide (0 < A i c) := ⟨_, rfl⟩
  obtain ⟨s, hsg⟩ : ∃ s, s = sgnQ ((A i c : Int) : Rat) := ⟨_, rfl⟩
  have Hsg := Lib.hid hsg
  have ht2 : decide (0 < s) = t := by rw [hsg, ht]; exact sgn_int _
  have Ht := Lib.hid ht
  have hcap1 := hcap.1
  have hcap2 : C ≤ 9223372036854775807 := by have := hcap.2; unfold maxLen at this; omega
  have Hbs : Hid (-1 ≤ s ∧ s ≤ 1) := by rw [Hid, hsg]; rcases sgnQ_val ((A i c : Int) : Rat) with h | h | h <;> omega
  clear hM hg eq hs hgi hV hC hx0 hx1 hx2 hVs ht hsg hcap
  go_enter Tryd.func104, Tryd.ntmps104
  go_wp2_with fail
  refine (sign_q QC.out).mono ?_
  rw [← Hsg.out]
  rintro e w1 ⟨rfl, hb1⟩
  have B1 := Lib.hid hb1
  have k0 := zab hb1 g0
  have k1 := zab hb1 ci
  clear hb1 e0 e1 e2 g0 ci
  cases t with
  | true =>
    go_wp2_with fail
    refine bodyPost_ret (results_none rfl _ _ _) rfl ?_
    have hA : flipM A m i c = A := by unfold flipM; rw [if_pos (of_decide_eq_true Ht.out.symm)]
    rw [hA]
    exact ⟨rfl, HM.out.start.grow (Nat.le_refl _) B1.out, zbm B1.out⟩
  | false =>
    have hA : Hid (flipM A m i c = negTo A i m) := by rw [Hid, flipM, if_neg (of_decide_eq_false Ht.out.symm)]
    go_wp2_with fail
    clear k0 k1
    go_loopw [30, 8, 9] (fun ii _ _ wr => ∃ j : Nat, j ≤ m ∧ ii = .int .i64 (j : Int) ∧ w.grownBy wr (some V) ∧ Hid (MatW wr (SN S w.heap.size wr) r0 rb cp n m (negTo A i j))) (fun ii _ _ _ => m - (intOf ii).toNat)
    case atStart => exact ⟨0, Nat.zero_le _, rfl, zbm B1.out, by rw [Hid, negTo_zero]; exact HM.out.start.grow (Nat.le_refl _) B1.out⟩
    case round =>
      obtain ⟨j, hj, rfl, hgr, hmj⟩ := hrel
      have GR := Lib.hid hgr
      have MJ := Lib.hid hmj.out
      have RG := Lib.hid (HG.out.grownN hgr fun b e => by cases e; exact Hgi.out)
      have g0 := RG.out.cell 0
      simp at g0
      have ci := MJ.out.hd i hi
      rw [← HV.out, ← HC.out] at ci
      clear hgr hmj
      rcases Nat.lt_or_ge j m with hlt | hge
      · obtain ⟨P1, k1, Q1, l1, e0, e1, e2, eq⟩ := MJ.out.el i j hi hlt
        rw [negTo_at] at e0 e1 eq
        rw [← HV.out] at e0 e1 e2
        have QC := Lib.hid (IsQ.stb.to eq (zay (T := Old wr) MJ.out.sS))
        obtain ⟨y0, hy0⟩ : ∃ x, x = decide (A i j < 0) := ⟨_, rfl⟩
        obtain ⟨y1, hy1⟩ : ∃ x, x = (lim (A i j).natAbs).length := ⟨_, rfl⟩
        rw [← hy0] at e0 QC
        rw [← hy1] at e1 QC
        rw [← Hx2.out] at e2 QC
        have hj0 : (0 : Int) ≤ (j : Int) := by omega
        have hj1 : (j : Int) < (m : Int) := by omega
        have hVr : V < wr.heap.size := Nat.lt_of_lt_of_le HVs.out GR.out.size
        have f0 : wr.frozen? ⟨V, j * 3, none⟩ = false := by rw [HV.out]; exact MJ.out.ef i _ hi (by omega)
        have f1 : wr.frozen? ⟨V, j * 3 + 1, none⟩ = false := by rw [HV.out]; exact MJ.out.ef i _ hi (by omega)
        have f2 : wr.frozen? ⟨V, j * 3 + 2, none⟩ = false := by rw [HV.out]; exact MJ.out.ef i _ hi (by omega)
        obtain ⟨wx, hwx, hbx, rx, hzx⟩ := zbv wr #[.bool y0, .slice P1 y1 k1, .slice Q1 x2 l1] 50
        obtain ⟨b0, b1, b2⟩ := zad rx
        have CC := Lib.hid (And.intro (zab hbx g0) (And.intro (zab hbx ci) (And.intro b0 (And.intro b1 b2))))
        have EE := Lib.hid (And.intro (zab hbx e0) (And.intro (zab hbx e1) (zab hbx e2)))
        have FF := Lib.hid (And.intro (zbo hbx e0 f0) (And.intro (zbo hbx e1 f1) (zbo hbx e2 f2)))
        have QX := Lib.hid (IsQ.stb.next QC.out hbx)
        have BX := Lib.hid hbx
        have Hlt := Lib.hid hlt
        obtain ⟨z, hz⟩ : ∃ x, x = -A i j := ⟨_, rfl⟩
        have HZ := Lib.hid hz
        have hne1 : Hid (wr.heap.size ≠ V) := by rw [Hid]; omega
        clear eq hy0 hy1 rx hzx hbx b0 b1 b2 f0 f1 f2 hVr hz hlt
        go_wp2_with fail
        clear hwx g0 ci e0 e1 e2
        have HS : Hid (∀ W : World, Below wx.heap.size wx W → W.cell? ⟨g, 0, none⟩ = some (.slice (some ⟨r0, 0, none⟩) n c0) ∧ W.cell? ⟨r0, i, none⟩ = some (.slice (some ⟨V, 0, none⟩) m C) ∧ W.cell? ⟨wr.heap.size, 0, none⟩ = some (.bool y0) ∧ W.cell? ⟨wr.heap.size, 1, none⟩ = some (.slice P1 y1 k1) ∧ W.cell? ⟨wr.heap.size, 2, none⟩ = some (.slice Q1 x2 l1)) := fun W hW => ⟨zab hW CC.out.1, zab hW CC.out.2.1, zab hW CC.out.2.2.1, zab hW CC.out.2.2.2.1, zab hW CC.out.2.2.2.2⟩
        have D1 : Hid (∀ W : World, Below wx.heap.size wx W → Calls Tryd.prog 73 #[.agg #[.bool y0, .slice P1 y1 k1, .slice Q1 x2 l1]] W (RetQ W (((z : Int)) : Rat))) := fun W hW => negative_q (IsQ.stb.next QX.out hW) (Hs.out j Hlt.out) (by rw [HZ.out, Rat.intCast_neg])
        go_region_held3 (fun w' => w'.cell? ⟨g, 0, none⟩ = some (.slice (some ⟨r0, 0, none⟩) n c0) ∧ w'.cell? ⟨r0, i, none⟩ = some (.slice (some ⟨V, 0, none⟩) m C) ∧ w'.cell? ⟨wr.heap.size, 0, none⟩ = some (.bool y0) ∧ w'.cell? ⟨wr.heap.size, 1, none⟩ = some (.slice P1 y1 k1) ∧ w'.cell? ⟨wr.heap.size, 2, none⟩ = some (.slice Q1 x2 l1))
          (first | exact HS.out _ (by (repeat (first | exact Below.refl _ _ | assumption | refine zaj ?_ _ | refine zan ?_ | refine zao ?_ ?_ _ _ _ | refine zaq ?_ (by omega) | refine zaa ?_ (by assumption))); (first | done | fail)) | exact ⟨zat (HS.out _ (by (repeat (first | exact Below.refl _ _ | assumption | refine zaj ?_ _ | refine zan ?_ | refine zao ?_ ?_ _ _ _ | refine zaq ?_ (by omega) | refine zaa ?_ (by assumption))); (first | done | fail))).1 Hgi.out, zat (HS.out _ (by (repeat (first | exact Below.refl _ _ | assumption | refine zaj ?_ _ | refine zan ?_ | refine zao ?_ ?_ _ _ _ | refine zaq ?_ (by omega) | refine zaa ?_ (by assumption))); (first | done | fail))).2.1 (Ne.symm Hr0.out), zat (HS.out _ (by (repeat (first | exact Below.refl _ _ | assumption | refine zaj ?_ _ | refine zan ?_ | refine zao ?_ ?_ _ _ _ | refine zaq ?_ (by omega) | refine zaa ?_ (by assumption))); (first | done | fail))).2.2.1 hne1.out, zat (HS.out _ (by (repeat (first | exact Below.refl _ _ | assumption | refine zaj ?_ _ | refine zan ?_ | refine zao ?_ ?_ _ _ _ | refine zaq ?_ (by omega) | refine zaa ?_ (by assumption))); (first | done | fail))).2.2.2.1 hne1.out, zat (HS.out _ (by (repeat (first | exact Below.refl _ _ | assumption | refine zaj ?_ _ | refine zan ?_ | refine zao ?_ ?_ _ _ _ | refine zaq ?_ (by omega) | refine zaa ?_ (by assumption))); (first | done | fail))).2.2.2.2 hne1.out⟩)
          (first
            | (go_at_call 73; (with_reducible refine Calls.mono (D1.out _ (by (repeat (first | exact Below.refl _ _ | assumption | refine zaj ?_ _ | refine zan ?_ | refine zao ?_ ?_ _ _ _ | refine zaq ?_ (by omega) | refine zaa ?_ (by assumption))); (first | done | fail))) ?_); rintro e w2 ⟨⟨v2, rfl, hv2⟩, hb2⟩; have B2 : Hid (Below wx.heap.size wx w2) := (by (repeat (first | exact Below.refl _ _ | assumption | refine zaj ?_ _ | refine zan ?_ | refine zao ?_ ?_ _ _ _ | refine zaq ?_ (by omega) | refine zaa ?_ (by assumption))); (first | done | fail)); obtain ⟨P2, k2, O2, l2, rfl⟩ := isQ_int hv2; have u0 := zab B2.out EE.out.1; have u1 := zab B2.out EE.out.2.1; have u2 := zab B2.out EE.out.2.2; have v0 := zbo B2.out EE.out.1 FF.out.1; have v1 := zbo B2.out EE.out.2.1 FF.out.2.1; have v2 := zbo B2.out EE.out.2.2 FF.out.2.2))
        have MX := Lib.hid ((MJ.out.grow GR.out.size BX.out).grow (Nat.le_trans GR.out.size BX.out.size) B2.out)
        have hq2 : IsQ w2 (SN S w.heap.size w2) (.agg #[.bool (decide (z < 0)), .slice P2 (lim z.natAbs).length k2, .slice O2 (lim 1).length l2]) ((z : Int) : Rat) := IsQ.stb.to hv2 (zay fun b hb => .inr ⟨by have h1 := GR.out.size; have h2 := BX.out.size; have h3 := hb.1; simp at h3; omega, hb.2⟩)
        have HQ2 := Lib.hid hq2
        have hlt := Hlt.out
        have G2 := Lib.hid (zbj (zbj GR.out (zbm BX.out)) (zbm B2.out))
        clear HS D1 hv2 hb2 u0 u1 u2 v0 v1 v2 hq2
        go_wp2_with fail
        go_roundw
        case rel =>
          have hM2 := MX.out.put hi hlt HQ2.out
          rw [← HV.out] at hM2
          refine ⟨j + 1, hlt, by go_num, zea G2.out, ?_⟩
          have e : SN S w.heap.size (putE w2 V j (.bool (decide (z < 0))) (.slice P2 (lim z.natAbs).length k2) (.slice O2 (lim 1).length l2)) = SN S w.heap.size w2 := by unfold SN; rw [zeh]
          show MatW _ (SN S w.heap.size (putE w2 V j _ _ _)) _ _ _ _ _ _
          rw [e]
          exact hM2.same fun a b _ _ => by rw [HZ.out]; exact negTo_succ A i j a b
        case measure => simp [intOf]; omega
      · obtain rfl : j = m := by omega
        go_wp2_with fail
        refine bodyPost_end (results_none rfl _ _ _) rfl ?_
        rw [hA.out]
        exact ⟨rfl, MJ.out, GR.out⟩
def ints (m : Nat) (f : Nat → Int) : List Rat := (List.range m).map fun j => ((f j : Int) : Rat)
theorem ints_len (m : Nat) (f : Nat → Int) : (ints m f).length = m := by unfold ints; simp
theorem ints_get {m : Nat} {f : Nat → Int} {j : Nat} (h : j < m) : (ints m f)[j]? = some ((f j : Int) : Rat) := by unfold ints; rw [List.getElem?_map, List.getElem?_range h]; rfl
theorem ints_snoc (m : Nat) (f : Nat → Int) : ints (m + 1) f = ints m f ++ [((f m : Int) : Rat)] := by unfold ints; rw [List.range_succ, List.map_append]; rfl
structure LineW (w : World) (S : Nat → Prop) (b c m : Nat) (f : Nat → Int) : Prop where
  blk : ∃ cur, w.heap[b]? = some (.cells cur 50 (0, 0))
  cap : m ≤ c ∧ c ≤ maxLen
  el : ∀ j, j < m → ∃ P k Q l, w.cell? ⟨b, j * 3, none⟩ = some (.bool (decide (f j < 0))) ∧ w.cell? ⟨b, j * 3 + 1, none⟩ = some (.slice P (lim (f j).natAbs).length k) ∧ w.cell? ⟨b, j * 3 + 2, none⟩ = some (.slice Q (lim 1).length l) ∧
    IsQ w S (.agg #[.bool (decide (f j < 0)), .slice P (lim (f j).natAbs).length k, .slice Q (lim 1).length l]) ((f j : Int) : Rat)
theorem OwnS.shape {α : Type} {n : Nat} {t : TypeId} {R : World → (Nat → Prop) → Value → α → Prop} {w : World} {base : Nat} {S : Nat → Prop} {v : Value} {l : List α} (h : OwnS n t R w base S v l) (hl : l ≠ []) :
    ∃ b c cur es, v = .slice (some ⟨b, 0, none⟩) l.length c ∧ base ≤ b ∧ w.heap[b]? = some (.cells cur t (0, 0)) ∧ l.length ≤ c ∧ c ≤ maxLen ∧ cur.toList.take (l.length * n) = cellsOf es ∧ Wid n es ∧ All2 (R w S) es l ∧ ¬ S b ∧ (∀ x, S x → x < w.heap.size) := by
  obtain ⟨es, h1, h2, h3, h4⟩ := h
  rcases h1.2 with ⟨_, h5⟩ | ⟨g, cap, cur, h5, h6, h7, h8, h9, h10, h11⟩
  · exact absurd (List.eq_nil_of_length_eq_zero h5) hl
  · exact ⟨g, cap, cur, es, h5, h6, h7, h8, h9, h11, h2, h3, fun hb => (h4 g hb).2 (by rw [h5]; rfl), fun x hx => (h4 x hx).1⟩
theorem cur_cell {w : World} {b : Nat} {cur : Array Value} {t : TypeId} {n : Nat} {xs : List Value} {o : Nat} {v : Value} (h : w.heap[b]? = some (.cells cur t (0, 0))) (ht : cur.toList.take n = xs) (hv : xs[o]? = some v) : w.cell? ⟨b, o, none⟩ = some v := by
  rw [cell_of_row w b o _ t (0, 0) h]
  rw [← ht, List.getElem?_take] at hv
  split at hv
  · simpa using hv
  · cases hv
theorem OwnS.line {w : World} {base : Nat} {S : Nat → Prop} {v : Value} {m : Nat} {f : Nat → Int} (h : OwnS 3 50 IsR w base S v (rawV (ints m f))) (hm : 1 ≤ m) :
    ∃ b c, v = .slice (some ⟨b, 0, none⟩) m c ∧ base ≤ b ∧ b < w.heap.size ∧ ¬ S b ∧ LineW w S b c m f := by
  have hl : (rawV (ints m f)).length = m := by simp [rawV, ints_len]
  obtain ⟨b, c, cur, es, rfl, h1, h2, h3, h4, h5, h6, h7, h8, _⟩ := h.shape (fun e => by rw [e] at hl; simp at hl; omega)
  rw [hl] at h3 h5
  refine ⟨b, c, by rw [hl], h1, (Array.getElem?_eq_some_iff.1 h2).1, h8, ⟨cur, h2⟩, ⟨h3, h4⟩, fun j hj => ?_⟩
  have hr : (rawV (ints m f))[j]? = some (raw ((f j : Int) : Rat)) := by unfold rawV; rw [List.getElem?_map, ints_get hj]; rfl
  obtain ⟨e, he, hR⟩ := h7.get hr
  obtain ⟨P, k, Q, l, rfl⟩ := isQ_int (show IsQ w S e ((f j : Int) : Rat) from hR)
  exact ⟨P, k, Q, l, cur_cell h2 h5 (zet h6 (i := 0) he rfl), cur_cell h2 h5 (zet h6 (i := 1) he rfl), cur_cell h2 h5 (zet h6 (i := 2) he rfl), hR⟩
theorem LineW.keep {w w' : World} {S T : Nat → Prop} {b c m : Nat} {f : Nat → Int} (h : LineW w S b c m f) (hb : w'.heap[b]? = w.heap[b]?) (hS : ∀ x, S x → T x ∧ w'.heap[x]? = w.heap[x]?) : LineW w' T b c m f where
  blk := by rw [hb]; exact h.blk
  cap := h.cap
  el j hj := by
    obtain ⟨P, k, Q, l, h1, h2, h3, h4⟩ := h.el j hj
    exact ⟨P, k, Q, l, (World.cell?_of_block hb).trans h1, (World.cell?_of_block hb).trans h2, (World.cell?_of_block hb).trans h3, IsQ.stb.to h4 fun x hx => ⟨(hS x hx).1, fun o => World.cell?_of_block (hS x hx).2⟩⟩
def IsVal (w : World) (S : Nat → Prop) (v x : Value) : Prop := v = x
theorem IsVal.stb : Stb IsVal := fun _ _ _ _ _ _ h _ => h
def heads (k m : Nat) (rb cp : Nat → Nat) : List Value := (List.range k).map fun i => .slice (some ⟨rb i, 0, none⟩) m (cp i)
theorem heads_len (k m : Nat) (rb cp : Nat → Nat) : (heads k m rb cp).length = k := by unfold heads; simp
theorem heads_snoc (k m : Nat) (rb cp : Nat → Nat) : heads (k + 1) m rb cp = heads k m rb cp ++ [.slice (some ⟨rb k, 0, none⟩) m (cp k)] := by unfold heads; rw [List.range_succ, List.map_append]; rfl
theorem heads_congr {k m : Nat} {rb cp rb' cp' : Nat → Nat} (h : ∀ i, i < k → rb i = rb' i ∧ cp i = cp' i) : heads k m rb cp = heads k m rb' cp' := by
  unfold heads
  refine List.map_congr_left fun i hi => ?_
  rw [(h i (List.mem_range.1 hi)).1, (h i (List.mem_range.1 hi)).2]
theorem matW_of {w : World} {base : Nat} {S : Nat → Prop} {v : Value} {n m : Nat} {rb cp : Nat → Nat} {A : Nat → Nat → Int} (hn : 1 ≤ n) (h : OwnS 1 29 IsVal w base (fun _ => False) v (heads n m rb cp))
    (hL : ∀ i, i < n → LineW w S (rb i) (cp i) m (A i)) (hinj : ∀ i k, i < n → k < n → rb i = rb k → i = k) (hsep : ∀ i, i < n → v.ownBlock ≠ some (rb i) ∧ ¬ S (rb i) ∧ rb i < w.heap.size) (hS : ∀ b, S b → b < w.heap.size ∧ v.ownBlock ≠ some b) :
    ∃ r0 c0, v = .slice (some ⟨r0, 0, none⟩) n c0 ∧ base ≤ r0 ∧ c0 ≤ maxLen ∧ n ≤ c0 ∧ MatW w S r0 rb cp n m A := by
  have hl := heads_len n m rb cp
  obtain ⟨b, c, cur, es, rfl, h1, h2, h3, h4, h5, h6, h7, _, _⟩ := h.shape (fun e => by rw [e] at hl; simp at hl; omega)
  rw [hl] at h3 h5
  have hb : b < w.heap.size := (Array.getElem?_eq_some_iff.1 h2).1
  refine ⟨b, c, by rw [hl], h1, h4, h3, ⟨fun i hi => ?_, fun i hi => ?_, fun i hi => (hL i hi).cap, fun i j hi hj => (hL i hi).el j hj, fun i o hi ho => ?_, hinj, fun i hi => ⟨fun e => (hsep i hi).1 (by rw [e]; rfl), (hsep i hi).2⟩, ⟨fun e => (hS b e).2 rfl, hb⟩, fun x hx => (hS x hx).1⟩⟩
  · have hr : (heads n m rb cp)[i]? = some (.slice (some ⟨rb i, 0, none⟩) m (cp i)) := by unfold heads; rw [List.getElem?_map, List.getElem?_range hi]; rfl
    obtain ⟨e, he, hR⟩ := h7.get hr
    have hR : e = _ := hR
    subst hR
    have := cur_cell h2 h5 (zet h6 (i := 0) he rfl)
    rwa [Nat.mul_one, Nat.add_zero] at this
  · simp [World.frozen?, h2]
  · obtain ⟨cur', hc⟩ := (hL i hi).blk
    simp [World.frozen?, hc]
def PhiR (G : Nat) (vr : Value) (hs : List Value) (bl m cl n0 base : Nat) (i : Nat) (v : Value) (w : World) (X : Nat → Option Value) : Prop :=
  match i with
  | 0 => v = .pointer (some ⟨G, 0, none⟩)
  | 1 => v = .pointer (some ⟨G, 0, none⟩)
  | 2 => v = .pointer (some ⟨G, 0, none⟩)
  | 3 => v = .pointer (some ⟨G, 0, none⟩)
  | 4 => v = vr
  | 5 => v = .slice (some ⟨bl, 0, none⟩) m cl
  | 6 => NewRow w n0 29 [.slice (some ⟨bl, 0, none⟩) m cl] v
  | 7 => (OwnS 1 29 IsVal w base (fun _ => False) v (hs ++ [.slice (some ⟨bl, 0, none⟩) m cl]) ∧ (v.ownBlock = vr.ownBlock ∨ ∃ b, v.ownBlock = some b ∧ n0 ≤ b))
  | 8 => v = .pointer (some ⟨G, 0, none⟩)
  | 9 => v = .pointer (some ⟨G, 0, none⟩)
  | _ => True
theorem own_neR {v va : Value} {n0 b : Nat} (h : v.ownBlock = va.ownBlock ∨ ∃ b, v.ownBlock = some b ∧ n0 ≤ b) (hb : b < n0) (hn : va.ownBlock ≠ some b) : v.ownBlock ≠ some b := by
  rcases h with h | ⟨c, h, hc⟩
  · rw [h]; exact hn
  · rw [h]
    intro e
    cases e
    omega
def blkR (vr : Value) : Nat → Option Nat := fun k => match k with | 7 => vr.ownBlock | _ => none
theorem phiR_st {G : Nat} {vr : Value} {hs : List Value} {bl m cl n0 base : Nat} (hb : ∀ b, vr.ownBlock = some b → b < n0) :
    ∀ i k v w w' X u, i ≠ k → X k = none → PhiR G vr hs bl m cl n0 base i v w X → w.grownBy w' (blkR vr k) → PhiR G vr hs bl m cl n0 base i v w' (updX X k u) := fun i k v w w' X u hik hX h hE => by
  have hbk : ∀ b, blkR vr k = some b → k = 7 ∧ vr.ownBlock = some b := fun b e => by
    unfold blkR at e
    split at e
    · exact ⟨rfl, e⟩
    · cases e
  match i, hik, h with
  | 0, _, h => exact h
  | 1, _, h => exact h
  | 2, _, h => exact h
  | 3, _, h => exact h
  | 4, _, h => exact h
  | 5, _, h => exact h
  | 6, _, h => exact NewRow.grown h hE fun b e => hb b (hbk b e).2
  | 7, hik, h => exact ⟨OwnS.grown IsVal.stb h.1 hE fun b e => absurd (hbk b e).1 (Ne.symm hik), h.2⟩
  | 8, _, h => exact h
  | 9, _, h => exact h
  | _ + 10, _, _ => exact trivial
def PreR (base : Nat) (vr : Value) (hs : List Value) (i : Nat) (w : World) : Prop := i = 7 → OwnS 1 29 IsVal w base (fun _ => False) vr hs
def JR (GV G : Nat) (xs : List Value) (r1 : Option Nat) (wn w : World) : Prop := Row w GV 105 [.pointer (some ⟨G, 0, none⟩)] ∧ Row w G 110 xs ∧ Kept r1 none none wn w
theorem JR.step {GV G : Nat} {xs : List Value} {r1 r : Option Nat} {wn w w' : World} (h : JR GV G xs r1 wn w) (hE : w.grownBy w' r) (hr : r = none ∨ r = r1) (hg : ∀ b, r = some b → GV ≠ b ∧ G ≠ b) : JR GV G xs r1 wn w' :=
  ⟨h.1.grownN hE fun b e => (hg b e).1, h.2.1.grownN hE fun b e => (hg b e).2, h.2.2.step hE (by rcases hr with h | h; exact .inl h; exact .inr (.inl h))⟩
theorem zbk (l : List Rat) : (rawV l).length = l.length := by simp [rawV]
def lcmTo (l : List Rat) : Nat := l.foldl (fun o q => Nat.lcm o q.den) 1
theorem lcmTo_snoc (l : List Rat) (q : Rat) : lcmTo (l ++ [q]) = Nat.lcm (lcmTo l) q.den := by unfold lcmTo; rw [List.foldl_append]; rfl
theorem lcm_parts (a b : Nat) : a * (b / Nat.gcd a b) = Nat.lcm a b := by
  unfold Nat.lcm
  rw [Nat.mul_div_assoc _ (Nat.gcd_dvd_right a b)]
theorem lcmTo_foldl_pos (l : List Rat) : ∀ o, 0 < o → 0 < l.foldl (fun o q => Nat.lcm o q.den) o := by
  induction l with
  | nil => exact fun o h => h
  | cons q l ih => exact fun o h => ih _ (Nat.lcm_pos h q.den_pos)
theorem lcmTo_pos (l : List Rat) : 0 < lcmTo l := lcmTo_foldl_pos l 1 (by omega)
theorem dvd_foldl (l : List Rat) : ∀ o, o ∣ l.foldl (fun o q => Nat.lcm o q.den) o := by
  induction l with
  | nil => exact fun o => Nat.dvd_refl o
  | cons q l ih => exact fun o => Nat.dvd_trans (Nat.dvd_lcm_left o q.den) (ih _)
theorem lcmTo_dvd_foldl {q : Rat} (l : List Rat) : ∀ o, q ∈ l → q.den ∣ l.foldl (fun o q => Nat.lcm o q.den) o := by
  induction l with
  | nil => intro o h; cases h
  | cons p l ih =>
    intro o h
    rcases List.mem_cons.1 h with rfl | h
    · exact Nat.dvd_trans (Nat.dvd_lcm_right o q.den) (dvd_foldl l _)
    · exact ih _ h
theorem lcmTo_dvd {q : Rat} {l : List Rat} (h : q ∈ l) : q.den ∣ lcmTo l := lcmTo_dvd_foldl l 1 h
theorem lcmTo_foldl_len (l : List Rat) (hs : ∀ q ∈ l, Sz q 1024) : ∀ o k, (lim o).length ≤ k → (lim (l.foldl (fun o q => Nat.lcm o q.den) o)).length ≤ k + 1024 * l.length := by
  induction l with
  | nil => intro o k h; simpa using h
  | cons q l ih =>
    intro o k h
    have h1 : (lim (Nat.lcm o q.den)).length ≤ k + 1024 := by
      rw [← lcm_parts]
      exact sz_mul h (zcw (hs q (by simp)).2)
    have := ih (fun p hp => hs p (by simp [hp])) _ _ h1
    rw [List.length_cons]
    simp only [List.foldl_cons]
    omega
theorem lcmTo_len {l : List Rat} (hs : ∀ q ∈ l, Sz q 1024) : (lim (lcmTo l)).length ≤ 1 + 1024 * l.length := lcmTo_foldl_len l hs 1 1 (by rw [zef]; simp)
set_option maxRecDepth 100000 in
set_option maxHeartbeats 2000000 in
theorem lcm_n {w : World} {vl : Value} {l : List Rat} (h : IsV w (Old w) vl (rawV l)) (hB : Bru w) (hs : ∀ q ∈ l, Sz q 1024) (hl : l.length ≤ 100) :
    Calls Tryd.prog 101 #[vl] w fun e w' => (∃ v, e = .returned v ∧ IsN w' w.heap.size w'.heap.size v (lcmTo l)) ∧ Below w.heap.size w w' := by
  have HX := Lib.hid h
  have HB := Lib.hid hB
  have Hs := Lib.hid hs
  obtain ⟨D, d, rfl, hxl⟩ := zav h
  obtain ⟨n, hn⟩ : ∃ n, n = l.length := ⟨_, rfl⟩
  rw [zbk, ← hn] at HX hxl ⊢
  rw [← hn] at hl
  have Hn := Lib.hid hn
  clear h hB hs hn
  go_enter Tryd.func101, Tryd.ntmps101
  go_wp2_with fail
  refine (one_n w).mono ?_
  rintro e w0 ⟨⟨v0, rfl, hv0⟩, hb0⟩
  have V0 := Lib.hid (zex hv0)
  have B0 := Lib.hid hb0
  obtain ⟨P0, k0, rfl, _, _, _⟩ := id hv0
  clear hv0 hb0
  go_wp2_with fail
  go_loopw [9, 3, 5] (fun i out _ wr => ∃ k : Nat, k ≤ n ∧ i = .int .i64 (k : Int) ∧ Below w.heap.size w wr ∧ Hid (IsN wr w.heap.size wr.heap.size out (lcmTo (l.take k)))) (fun i _ _ _ => n - (intOf i).toNat)
  case atStart => exact ⟨0, Nat.zero_le _, rfl, B0.out, by rw [Hid]; exact (IsK.isL V0.out fun b hb => hb)⟩
  case round =>
    obtain ⟨k, hk, rfl, hbw, hv⟩ := hrel
    have HW := Lib.hid hbw
    have HV := Lib.hid hv.out
    obtain ⟨P, kp, rfl, _, _, _⟩ := id hv.out
    rcases Nat.lt_or_ge k n with hlt | hge
    · obtain ⟨x, hx, hrx⟩ := zdb (l := l) (j := k) (by rw [← Hn.out]; exact hlt)
      obtain ⟨b1, o1, X1, X2, X3, X4, rfl, _, helb, c0, c1, c2⟩ := zda (IsV.stb.to HX.out (zam HW.out)) hrx
      obtain ⟨bb0, e0⟩ : ∃ s, s = (raw x).neg := ⟨_, rfl⟩
      obtain ⟨bb1, e1⟩ : ∃ s, s = (raw x).num.length := ⟨_, rfl⟩
      rw [← e0] at c0 helb
      rw [← e1] at c1 helb
      have edl : (raw x).den = lim x.den := rfl
      rw [edl] at c2 helb
      have QX := Lib.hid (zey helb)
      have Hx := Lib.hid hx
      have Hxs := Lib.hid (Hs.out x (List.mem_of_getElem? hx))
      have Hst : Hid (lcmTo (l.take (k + 1)) = Nat.lcm (lcmTo (l.take k)) x.den) := by rw [Hid, zce hx, lcmTo_snoc]
      obtain ⟨L, hL⟩ : ∃ L, L = lcmTo (l.take k) := ⟨_, rfl⟩
      have Hll : Hid ((lim L).length ≤ 200000) := by
        rw [Hid, hL]
        have := lcmTo_len (l := l.take k) fun q hq => Hs.out q (List.mem_of_mem_take hq)
        have := List.length_take_le k l
        omega
      have HLp : Hid (0 < x.den) := x.den_pos
      rw [← hL] at HV Hst ⊢
      obtain ⟨nl, hnl⟩ : ∃ m, m = (lim L).length := ⟨_, rfl⟩
      rw [← hnl] at HV ⊢
      have cr := zbn
      have hk0 : (0 : Int) ≤ (k : Int) := by omega
      have hk1 : (k : Int) < (n : Int) := by omega
      obtain ⟨wx, hwx, hbx, rx, hzx⟩ := zbv wr #[.bool bb0, .slice X1 bb1 X2, .slice X3 (lim x.den).length X4] 50
      have BX := Lib.hid hbx
      have Q1 := Lib.hid (IsQ.stb.next QX.out hbx)
      have V1 := Lib.hid ((zex HV.out))
      have V1 := Lib.hid (IsK.stb.fresh V1.out hbx)
      have BB := Lib.hid (Bru.next HB.out (zaa HW.out hbx))
      have CX := Lib.hid ((zad rx).2.2)
      have HG : Hid (0 < Nat.gcd L x.den) := zee _ x.den_nz
      have HGl : Hid ((lim (Nat.gcd L x.den)).length ≤ 1024) := zew _ x.den_nz Hxs.out.2
      have Hlt := Lib.hid hlt
      clear hx hrx helb e0 e1 hbw hv hL hnl rx hzx hbx edl hlt
      go_wp2_with fail
      clear hwx c0 c1 c2
      have HS : Hid (∀ W : World, Below wx.heap.size wx W → W.cell? ⟨wr.heap.size, 2, none⟩ = some (.slice X3 (lim x.den).length X4)) := fun W hW => zab hW CX.out
      have D1 : Hid (∀ W : World, Below wx.heap.size wx W → Calls Tryd.prog 118 #[.slice P nl kp, .slice X3 (lim x.den).length X4] W (fun e w' => (∃ v, e = .returned v ∧ IsN w' W.heap.size w'.heap.size v (Nat.gcd L x.den)) ∧ Below W.heap.size W w')) := fun W hW => gcd_n (zak (IsK.stb.next (IsK.stb.old V1.out) hW)) (zak (IsK.stb.next (zcz Q1.out) hW)) (Bru.next BB.out hW) (Nat.le_trans Hll.out (by omega)) (Nat.le_trans Hxs.out.2 (by omega))
      go_region_held3 (fun w' => w'.cell? ⟨wr.heap.size, 2, none⟩ = some (.slice X3 (lim x.den).length X4))
        (exact HS.out _ (by (repeat (first | exact Below.refl _ _ | assumption | refine zaj ?_ _ | refine zan ?_ | refine zao ?_ ?_ _ _ _ | refine zaq ?_ (by omega) | refine zaa ?_ (by assumption))); (first | done | fail)))
        (first
          | (go_at_call 118; (with_reducible refine Calls.mono (D1.out _ (by (repeat (first | exact Below.refl _ _ | assumption | refine zaj ?_ _ | refine zan ?_ | refine zao ?_ ?_ _ _ _ | refine zaq ?_ (by omega) | refine zaa ?_ (by assumption))); (first | done | fail))) ?_); rintro e w1 ⟨⟨v1, rfl, hv1⟩, hb1⟩; have G1 := Lib.hid (zfs hv1); obtain ⟨P1, k1, rfl, _, _, _⟩ := id hv1; have D2 : Hid (∀ W : World, Below w1.heap.size w1 W → Calls Tryd.prog 119 #[.slice X3 (lim x.den).length X4, .slice P1 (lim (Nat.gcd L x.den)).length k1] W (fun e w' => (∃ v, e = .returned v ∧ NumS w' (Old w') v (x.den / Nat.gcd L x.den)) ∧ Below W.heap.size W w')) := fun W hW => zcl (IsK.stb.next (zcz Q1.out) (by (repeat (first | exact Below.refl _ _ | assumption | refine zaj ?_ _ | refine zan ?_ | refine zao ?_ ?_ _ _ _ | refine zaq ?_ (by omega) | refine zaa ?_ (by assumption))); (first | done | fail))) (zak (IsK.stb.next G1.out hW)) (Nat.le_trans Hxs.out.2 (by omega)) (Nat.le_trans HGl.out (by omega)) HG.out)
          | (go_at_call 119; (with_reducible refine Calls.mono (D2.out _ (by (repeat (first | exact Below.refl _ _ | assumption | refine zaj ?_ _ | refine zan ?_ | refine zao ?_ ?_ _ _ _ | refine zaq ?_ (by omega) | refine zaa ?_ (by assumption))); (first | done | fail))) ?_); rintro e w2 ⟨⟨v2, rfl, hv2⟩, hb2⟩; have G2 := Lib.hid hv2; obtain ⟨P2, k2, rfl, _, _, _⟩ := id hv2; have D3 : Hid (∀ W : World, Below w2.heap.size w2 W → Calls Tryd.prog 97 #[.slice P nl kp, .slice P2 (lim (x.den / Nat.gcd L x.den)).length k2] W (fun e w' => (∃ v, e = .returned v ∧ IsN w' W.heap.size w'.heap.size v (L * (x.den / Nat.gcd L x.den))) ∧ Below W.heap.size W w')) := fun W hW => mul_n (zak (IsK.stb.next (IsK.stb.old V1.out) (by (repeat (first | exact Below.refl _ _ | assumption | refine zaj ?_ _ | refine zan ?_ | refine zao ?_ ?_ _ _ _ | refine zaq ?_ (by omega) | refine zaa ?_ (by assumption))); (first | done | fail)))) (zak (IsK.stb.next G2.out hW)) (Nat.le_refl _) (Nat.le_refl _) (Nat.le_trans Hll.out (by omega)) (Nat.le_trans (zcw Hxs.out.2) (by omega)))
          | (go_at_call 97; (with_reducible refine Calls.mono (D3.out _ (by (repeat (first | exact Below.refl _ _ | assumption | refine zaj ?_ _ | refine zan ?_ | refine zao ?_ ?_ _ _ _ | refine zaq ?_ (by omega) | refine zaa ?_ (by assumption))); (first | done | fail))) ?_); rintro e w3 ⟨⟨v3, rfl, hv3⟩, hb3⟩; have G3 := Lib.hid hv3; obtain ⟨P3, k3, rfl, _, _, _⟩ := id hv3))
      have B3 : Hid (Below wx.heap.size wx w3) := by rw [Hid]; exact (by (repeat (first | exact Below.refl _ _ | assumption | refine zaj ?_ _ | refine zan ?_ | refine zao ?_ ?_ _ _ _ | refine zaq ?_ (by omega) | refine zaa ?_ (by assumption))); (first | done | fail))
      have hlow : w.heap.size ≤ w2.heap.size := by have h1 := HW.out.size; have h2 := BX.out.size; have h3 := hb1.size; have h4 := hb2.size; exact Nat.le_trans h1 (Nat.le_trans h2 (Nat.le_trans (by simpa using h3) h4))
      clear HS D1 D2 D3 hv1 hv2 hv3 hb1 hb2 hb3 G1 G2
      go_wp2_with fail
      go_roundw
      case rel => exact ⟨k + 1, Hlt.out, by go_num, zaa (zaa HW.out BX.out) B3.out, by rw [Hid, Hst.out, ← lcm_parts]; exact G3.out.wide hlow (Nat.le_refl _)⟩
      case measure => have := Hlt.out; simp [intOf]; omega
    · obtain rfl : k = n := by omega
      clear hbw hv
      go_wp2_with fail
      go_ret
      refine ⟨⟨_, rfl, ?_⟩, HW.out⟩
      have h := HV.out
      rw [List.take_of_length_le (Nat.le_of_eq Hn.out.symm)] at h ⊢
      exact h
end Go.Proofs.YtblpaocignlpkaaDoor
