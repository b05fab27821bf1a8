/-
  Words for memory: lists of numbers that lie in memory, rows of the call's own, and the laws on make and append in these words.
-/
import Derived.Test.YtbeocfiimminiaaDoorPlain
import Derived.WalkSpells
import Derived.WalkLawsBesides
import Derived.BigQuiet
import Derived.Deep.QuietTactic
import Derived.Lib.Hide
import Derived.Maps.AppendAt
import Derived.Deep.AppendLies
namespace Go.Proofs.YtbeocfiimminiaaDoor
open Go.RowKit

/-- Numbers of one kind as cells. -/
def cel (k : IntKind) (l : List Nat) : List Value := l.map fun (n : Nat) => Value.int k (n : Int)

theorem cel_length (k : IntKind) (l : List Nat) : (cel k l).length = l.length := by simp [cel]
theorem cel_append (k : IntKind) (a b : List Nat) : cel k (a ++ b) = cel k a ++ cel k b := by simp [cel]
theorem cel_getElem? (k : IntKind) (l : List Nat) (j : Nat) : (cel k l)[j]? = l[j]?.map fun (n : Nat) => Value.int k (n : Int) := by simp [cel]
theorem cel_nil_iff {k : IntKind} {l : List Nat} : cel k l = [] ↔ l = [] := by simp [cel]
theorem cel_ne {k : IntKind} {l : List Nat} {j : Nat} (h : j + 1 ≤ l.length) : cel k l ≠ [] := by
  rw [ne_eq, cel_nil_iff]
  rintro rfl
  simp at h
theorem cel_one (k : IntKind) (l : List Nat) : ∀ u ∈ cel k l, u.oneCell' = true := by
  intro u hu
  simp only [cel, List.mem_map] at hu
  obtain ⟨n, _, rfl⟩ := hu
  rfl
theorem cel_take (k : IntKind) (l : List Nat) (n : Nat) : cel k (l.take n) = (cel k l).take n := by simp [cel]
theorem cel_drop (k : IntKind) (l : List Nat) (n : Nat) : cel k (l.drop n) = (cel k l).drop n := by simp [cel]
theorem cel_set (k : IntKind) (l : List Nat) (i n : Nat) : cel k (l.set i n) = (cel k l).set i (.int k (n : Int)) := by simp [cel]
theorem cel_at {k : IntKind} {l : List Nat} {j : Nat} (h : j < l.length) : (cel k l)[j]? = some (.int k (l.getD j 0 : Nat)) := by
  rw [cel_getElem?, List.getElem?_eq_getElem h, List.getD_eq_getElem?_getD, List.getElem?_eq_getElem h]
  rfl

/-- The cells xs lie at A, in a block from lo on and below hi. -/
def SV (w : World) (lo hi : Nat) (A : Option Addr) (xs : List Value) : Prop :=
  xs ≠ [] → ∃ b off, A = some ⟨b, off, none⟩ ∧ lo ≤ b ∧ b < hi ∧ ∀ j v, xs[j]? = some v → w.cell? ⟨b, off + j, none⟩ = some v

section
variable {w w' : World} {lo hi lo' hi' : Nat} {A : Option Addr} {xs : List Value}
theorem SV.nil : SV w lo hi A [] := fun h => absurd rfl h
theorem SV.keep (h : SV w lo hi A xs) (hk : ∀ p : Addr, lo ≤ p.block → p.block < hi → w'.cell? p = w.cell? p) : SV w' lo hi A xs := fun hx => by
  obtain ⟨b, off, hA, h1, h2, hc⟩ := h hx
  exact ⟨b, off, hA, h1, h2, fun j v hv => (hk _ h1 h2).trans (hc j v hv)⟩
theorem SV.wide (h : SV w lo hi A xs) (h1 : lo' ≤ lo) (h2 : hi ≤ hi') : SV w lo' hi' A xs := fun hx => by
  obtain ⟨b, off, hA, g1, g2, hc⟩ := h hx
  exact ⟨b, off, hA, by omega, by omega, hc⟩
theorem SV.below {B : Nat} (h : SV w lo hi A xs) (hb : Below B w w') (hB : hi ≤ B) : SV w' lo hi A xs := h.keep fun p _ h2 => hb.cell (by omega)
theorem SV.drewN (h : SV w lo hi A xs) (n : Nat) : SV (w.drewN n) lo hi A xs := h
theorem SV.drew (h : SV w lo hi A xs) : SV w.drew lo hi A xs := h
theorem SV.alloc (h : SV w lo hi A xs) (hB : hi ≤ w.heap.size) (o : Obj) : SV (w.alloc o) lo hi A xs := h.keep fun p _ h2 => World.cell?_alloc_lt w o p (by omega)
theorem SV.setCell (h : SV w lo hi A xs) {p : Addr} (hB : p.block < lo ∨ hi ≤ p.block) (u : Value) : SV (w.setCell p u) lo hi A xs :=
  h.keep fun q h1 h2 => World.cell?_setCell_other w p q u (fun e => by subst e; omega)
theorem SV.grown {row : Option Nat} (h : SV w lo hi A xs) (hg : w.grownBy w' row) (hB : hi ≤ w.heap.size) (hr : ∀ g, row = some g → g < lo ∨ hi ≤ g) : SV w' lo hi A xs :=
  h.keep fun p h1 h2 => World.cell?_of_block (hg.block p.block (by omega) (fun e => by have := hr _ e.symm; omega))
theorem SV.take (h : SV w lo hi A xs) (n : Nat) : SV w lo hi A (xs.take n) := fun hx => by
  have hne : xs ≠ [] := by rintro rfl; simp at hx
  obtain ⟨b, off, hA, g1, g2, hc⟩ := h hne
  refine ⟨b, off, hA, g1, g2, fun j v hv => hc j v ?_⟩
  rw [List.getElem?_take] at hv
  split at hv
  · exact hv
  · cases hv
/-- What 's[k:]' of elements of one cell leaves. -/
theorem SV.cut (h : SV w lo hi A xs) {k cap : Nat} (hc : xs.length ≤ cap) : SV w lo hi (if cap = k then A else A.map (·.add k)) (xs.drop k) := fun hx => by
  have hlen : k < xs.length := by
    rcases Nat.lt_or_ge k xs.length with h1 | h1
    · exact h1
    · exact absurd (List.drop_eq_nil_of_le h1) hx
  have hne : xs ≠ [] := by rintro rfl; simp at hlen
  obtain ⟨b, off, rfl, g1, g2, hcell⟩ := h hne
  rw [if_neg (by omega)]
  refine ⟨b, off + k, by simp [Addr.add_lit], g1, g2, fun j v hv => ?_⟩
  rw [Nat.add_assoc]
  exact hcell _ v (by rw [← hv, List.getElem?_drop])
theorem SV.at_ {b off : Nat} (h : SV w lo hi (some ⟨b, off, none⟩) xs) : ∀ j v, xs[j]? = some v → w.cell? ⟨b, off + j, none⟩ = some v := by
  intro j v hv
  obtain ⟨b', off', hA, _, _, hc⟩ := h (by rintro rfl; simp at hv)
  simp only [Option.some.injEq, Addr.mk.injEq, and_true] at hA
  obtain ⟨rfl, rfl⟩ := hA
  exact hc j v hv
theorem SV.news (h : SV w lo hi A xs) (hne : xs ≠ []) : ∃ ad, A = some ad ∧ ∀ j u, xs[j]? = some u → w.cell? (ad.add j) = some u := by
  obtain ⟨b, off, hA, _, _, hc⟩ := h hne
  exact ⟨_, hA, fun j u hu => by rw [Addr.add_lit]; exact hc j u hu⟩
end

/-- The value v is a slice that reads as the list l of numbers of kind k, in a block from lo on and below hi. -/
def IsL (k : IntKind) (w : World) (lo hi : Nat) (v : Value) (l : List Nat) : Prop :=
  ∃ A c, v = .slice A l.length c ∧ l.length ≤ c ∧ c ≤ maxLen ∧ SV w lo hi A (cel k l)

/-- The value v reads as the number n. -/
def IsN (w : World) (lo hi : Nat) (v : Value) (n : Nat) : Prop := IsL .u32 w lo hi v (lim n)

section
variable {k : IntKind} {w w' : World} {lo hi lo' hi' : Nat} {v : Value} {l : List Nat}
theorem IsL.wide (h : IsL k w lo hi v l) (h1 : lo' ≤ lo) (h2 : hi ≤ hi') : IsL k w lo' hi' v l := by
  obtain ⟨A, c, rfl, hc, hm, hs⟩ := h
  exact ⟨A, c, rfl, hc, hm, hs.wide h1 h2⟩
theorem IsL.keep (h : IsL k w lo hi v l) (hk : ∀ p : Addr, lo ≤ p.block → p.block < hi → w'.cell? p = w.cell? p) : IsL k w' lo hi v l := by
  obtain ⟨A, c, rfl, hc, hm, hs⟩ := h
  exact ⟨A, c, rfl, hc, hm, hs.keep hk⟩
theorem IsL.below {B : Nat} (h : IsL k w lo hi v l) (hb : Below B w w') (hB : hi ≤ B) : IsL k w' lo hi v l := h.keep fun p _ h2 => hb.cell (by omega)
theorem IsL.drewN (h : IsL k w lo hi v l) (n : Nat) : IsL k (w.drewN n) lo hi v l := h
theorem IsN.drewN {n : Nat} (h : IsN w lo hi v n) (m : Nat) : IsN (w.drewN m) lo hi v n := IsL.drewN h m
theorem IsN.below {n B : Nat} (h : IsN w lo hi v n) (hb : Below B w w') (hB : hi ≤ B) : IsN w' lo hi v n := IsL.below h hb hB
theorem IsN.wide {n : Nat} (h : IsN w lo hi v n) (h1 : lo' ≤ lo) (h2 : hi ≤ hi') : IsN w lo' hi' v n := IsL.wide h h1 h2
theorem IsN.keep {n : Nat} (h : IsN w lo hi v n) (hk : ∀ p : Addr, lo ≤ p.block → p.block < hi → w'.cell? p = w.cell? p) : IsN w' lo hi v n := IsL.keep h hk
theorem IsL.nil : IsL k w lo hi (.slice none 0 0) [] := ⟨none, 0, rfl, Nat.le_refl _, by unfold maxLen; omega, SV.nil⟩
theorem IsN.zero : IsN w lo hi (.slice none 0 0) 0 := by unfold IsN; rw [lim_zero]; exact IsL.nil
theorem IsL.length_le (h : IsL k w lo hi v l) : l.length ≤ maxLen := by
  obtain ⟨A, c, rfl, hc, hm, hs⟩ := h
  omega
end

/-- The cell of a list's element, as a number of which its bounds alone are told. -/
theorem cell_at {k : IntKind} {w : World} {b off j : Nat} {l : List Nat} (hc : ∀ j v, (cel k l)[j]? = some v → w.cell? ⟨b, off + j, none⟩ = some v) (hj : j < l.length) :
    ∃ x : Int, Hid (x = (l.getD j 0 : Nat)) ∧ 0 ≤ x ∧ w.cell? ⟨b, off + j, none⟩ = some (.int k x) :=
  ⟨_, rfl, by omega, hc j _ (cel_at hj)⟩
theorem cell_lo {k : IntKind} {w : World} {b off j : Nat} {l : List Nat} (hl : Lo l) (hc : ∀ j v, (cel k l)[j]? = some v → w.cell? ⟨b, off + j, none⟩ = some v) (hj : j < l.length) :
    ∃ x : Int, Hid (x = (l.getD j 0 : Nat)) ∧ 0 ≤ x ∧ x ≤ 999999999 ∧ w.cell? ⟨b, off + j, none⟩ = some (.int k x) :=
  ⟨_, rfl, by omega, by have := lo_getD hl j; omega, hc j _ (cel_at hj)⟩

/-- Block g is a row of the cells xs of element type t. -/
def Row (w : World) (g : Nat) (t : TypeId) (xs : List Value) : Prop := w.heap[g]? = some (.cells xs.toArray t (0, 0))

section
variable {w w' : World} {g : Nat} {t : TypeId} {xs : List Value}
theorem Row.lt (h : Row w g t xs) : g < w.heap.size := by
  rcases Nat.lt_or_ge g w.heap.size with hlt | hge
  · exact hlt
  · unfold Row at h; rw [Array.getElem?_eq_none hge] at h; cases h
theorem Row.cell (h : Row w g t xs) (i : Nat) : w.cell? ⟨g, i, none⟩ = xs[i]? := by rw [cell_of_row w g i _ t (0, 0) h]; simp
theorem Row.frozen (h : Row w g t xs) (i : Nat) : w.frozen? ⟨g, i, none⟩ = false := by unfold Row at h; simp [World.frozen?, h]
theorem Row.drewN (h : Row w g t xs) (n : Nat) : Row (w.drewN n) g t xs := h
theorem Row.drew (h : Row w g t xs) : Row w.drew g t xs := h
theorem Row.alloc (h : Row w g t xs) (o : Obj) : Row (w.alloc o) g t xs := (Below.heap_alloc w o g h.lt).trans h
theorem Row.set_ (h : Row w g t xs) (i : Nat) (u : Value) : Row (w.setCell ⟨g, i, none⟩ u) g t (xs.set i u) := by
  unfold Row at h ⊢
  simp [World.setCell, Array.getElem?_modify, h]
theorem Row.far (h : Row w g t xs) {p : Addr} (hp : g ≠ p.block) (u : Value) : Row (w.setCell p u) g t xs := (Below.heap_setCell w p u g hp).trans h
theorem Row.below {B : Nat} (h : Row w g t xs) (hb : Below B w w') (hg : g < B) : Row w' g t xs := (hb.block g hg).trans h
theorem Row.grown {row : Option Nat} (h : Row w g t xs) (hb : w.grownBy w' row) (hg : some g ≠ row) : Row w' g t xs := (hb.block g h.lt hg).trans h
theorem Row.sv (h : Row w g t xs) : SV w g (g + 1) (some ⟨g, 0, none⟩) xs := fun _ => ⟨g, 0, rfl, Nat.le_refl _, Nat.lt_succ_self _, fun j v hv => by rw [Nat.zero_add, h.cell]; exact hv⟩
theorem Row.ne_ {g' : Nat} {t' : TypeId} {xs' : List Value} (h : Row w g t xs) (h' : Row w g' t' xs') (hne : t ≠ t') : g ≠ g' := by
  rintro rfl
  unfold Row at h h'
  rw [h] at h'
  injection h' with h'
  injection h' with _ ht
  exact hne ht
/-- A row of numbers: the cell i. -/
theorem Row.num {k : IntKind} {l : List Nat} (h : Row w g t (cel k l)) {i : Nat} (hi : i < l.length) : ∃ x : Int, Hid (x = (l.getD i 0 : Nat)) ∧ 0 ≤ x ∧ w.cell? ⟨g, i, none⟩ = some (.int k x) :=
  ⟨_, rfl, by omega, by rw [h.cell, cel_at hi]⟩
theorem Row.lo {k : IntKind} {l : List Nat} (h : Row w g t (cel k l)) (hl : Lo l) {i : Nat} (hi : i < l.length) :
    ∃ x : Int, Hid (x = (l.getD i 0 : Nat)) ∧ 0 ≤ x ∧ x ≤ 999999999 ∧ w.cell? ⟨g, i, none⟩ = some (.int k x) :=
  ⟨_, rfl, by omega, by have := lo_getD hl i; omega, by rw [h.cell, cel_at hi]⟩
theorem Row.setNum {k : IntKind} {l : List Nat} (h : Row w g t (cel k l)) (i n : Nat) (x : Int) (hx : x = (n : Int)) : Row (w.setCell ⟨g, i, none⟩ (.int k x)) g t (cel k (l.set i n)) := by
  subst hx; rw [cel_set]; exact h.set_ i _
end

/-- Lists: sets and reads. -/
theorem getD_set_eq {l : List Nat} {i x : Nat} (h : i < l.length) : (l.set i x).getD i 0 = x := by simp [List.getD_eq_getElem?_getD, h]
theorem getD_set_ne {l : List Nat} {i j x : Nat} (h : i ≠ j) : (l.set i x).getD j 0 = l.getD j 0 := by simp [List.getD_eq_getElem?_getD, List.getElem?_set_ne h]
theorem lo_set {l : List Nat} (h : Lo l) {i x : Nat} (hx : x < 1000000000) : Lo (l.set i x) := fun y hy => by
  rcases List.mem_or_eq_of_mem_set hy with h1 | h1
  · exact h y h1
  · omega

/-- 'make([]T, n)' of one-cell numbers: a new row of zeros. -/
theorem wpList_make_row {P : Program} (w : World) {ops : Array Oper} {rest : List Oper} {o : Oper} {a : Act} {Q : Exit → Act → World → Prop}
    (hg : o.guard = none) (l c : Operand) (t : TypeId) (hop : o.op = Op.makeSlice t l c)
    (e : TypeId) (i : TypeInfo) (k : IntKind) (h1 : P.underlying t = some (.slice e)) (h2 : P.info? e = some i) (h3 : i.zero = some (.int k 0)) (h4 : i.size = 1)
    (kl kc : IntKind) (L C : Int) (n : Nat) (hl : a.eval l = .int kl L) (hc : a.eval c = .int kc C) (hL : L = (n : Int)) (hC : C = (n : Int)) (b2 : i.bytes * n ≤ 281474976710656) (b3 : n ≤ maxLen)
    (hK : ∀ w', Row w' w.heap.size e (cel k (List.replicate n 0)) → Below w.heap.size w w' → w'.heap.size = w.heap.size + 1 → wpList P ops Q rest (a.put o.dst (.slice (some ⟨w.heap.size, 0, none⟩) n n)) w') :
    wpList P ops Q (o :: rest) a w := by
  refine wpList_plain hg fun K hK' => ?_
  have hb' : (i.bytes : Int) * (n : Int) ≤ 281474976710656 := by
    have h : ((i.bytes * n : Nat) : Int) ≤ 281474976710656 := by omega
    rwa [Int.natCast_mul] at h
  have hr := run_make (P := P) w t e i (.int k 0) h1 h2 h3 kl kc n n (by omega) (Int.le_refl _) hb' (by simp only [maxLen] at b3; omega)
  simp only [Int.toNat_natCast] at hr
  subst hL
  subst hC
  unfold Oper.wp
  simp [execOp, hop, hl, hc, hr, Result.andThen]
  refine hK' _ _ (hK _ ?_ ((Below.refl _ _).alloc (Nat.le_refl _) _) (by simp))
  unfold Row
  have hm : (cel k (List.replicate n 0)).toArray = madeCells (Value.int k 0).cells (n * i.size) := by
    apply Array.ext'
    rw [h4, Nat.mul_one]
    show _ = (madeCells #[.int k 0] n).toList
    rw [toList_madeCells_one]
    simp [cel]
  rw [hm]
  exact heap_alloc_new w _

/-- A slice of the call's own that may grow. -/
def Own (w : World) (base : Nat) (e : TypeId) (v : Value) (xs : List Value) : Prop := w.ownsRow base e 1 v xs.length xs

theorem Own.sl {w : World} {base : Nat} {e : TypeId} {v : Value} {xs : List Value} (h : Own w base e v xs) :
    ∃ A c, v = .slice A xs.length c ∧ xs.length ≤ c ∧ c ≤ maxLen ∧ SV w base w.heap.size A xs := by
  have h0 := h
  rcases h.2 with ⟨hv, hn⟩ | ⟨g, cap, cur, hv, hb, hh, hn, hcm, hcs, htake⟩
  · have hx : xs = [] := List.eq_nil_of_length_eq_zero hn
    subst hx
    exact ⟨none, 0, by simpa using hv, Nat.le_refl _, by unfold maxLen; omega, SV.nil⟩
  · refine ⟨some ⟨g, 0, none⟩, cap, hv, hn, hcm, fun _ => ⟨g, 0, rfl, hb, (Array.getElem?_eq_some_iff.1 hh).1, fun j u hu => ?_⟩⟩
    subst hv
    have := World.ownsRow.cells h0 (g := g) rfl j u hu
    rw [Addr.add_lit] at this
    exact this
theorem Own.isL {k : IntKind} {w : World} {base : Nat} {e : TypeId} {v : Value} {l : List Nat} (h : Own w base e v (cel k l)) : IsL k w base w.heap.size v l := by
  obtain ⟨A, c, hv, h1, h2, h3⟩ := h.sl
  rw [cel_length] at hv h1
  exact ⟨A, c, hv, h1, h2, h3⟩
theorem Own.nil (w : World) (base : Nat) (e : TypeId) : Own w base e (.slice none 0 0) [] := World.ownsRow_nil w base e 1
theorem Own.below {w w' : World} {base : Nat} {e : TypeId} {v : Value} {xs : List Value} (h : Own w base e v xs) (hb : Below w.heap.size w w') : Own w' base e v xs :=
  World.ownsRow.kept (row := none) h ⟨hb.os, hb.tape, hb.output, hb.size, fun k hk _ => hb.block k hk⟩ (by cases v.ownBlock <;> simp)
theorem Own.drewN {w : World} {base : Nat} {e : TypeId} {v : Value} {xs : List Value} (h : Own w base e v xs) (n : Nat) : Own (w.drewN n) base e v xs := h.below ⟨rfl, rfl, rfl, Nat.le_refl _, fun _ _ => rfl⟩

section
variable {P : Program} (w : World)

theorem run_app_nil (base : Nat) (t ty e : TypeId) (i : TypeInfo) (size : Nat) (ht : P.underlying t = some (.slice e)) (hi : P.info? e = some i)
    (v : Value) (n : Nat) (xs : List Value) (hown : w.ownsRow base e size v n xs) (c : Nat) : (Builtin.append_ #[t, t] ty #[v, .slice none 0 c]).run P w = .ok v w := by
  rcases hown.2 with ⟨rfl, rfl⟩ | ⟨g, cap, cur, rfl, _, _, hnc, _⟩
  · simp [Builtin.append_, run_underlying ht, sizeOf, typeInfo, hi, Builtin.lenOf, Builtin.firstCells]
  · simp [Builtin.append_, run_underlying ht, sizeOf, typeInfo, hi, Builtin.lenOf, Builtin.firstCells, hnc, storeCells]

theorem run_app (base : Nat) (t ty e : TypeId) (i : TypeInfo) (z : Value) (size bytes : Nat) (ht : P.underlying t = some (.slice e)) (hi : P.info? e = some i) (hz : i.zero = some z)
    (hsize : i.size = size) (hby : i.bytes = bytes) (hzs : z.cells.size = size) (hsz : 0 < size)
    (v : Value) (n : Nat) (xs : List Value) (hown : w.ownsRow base e size v n xs)
    (lo hi' : Nat) (A : Option Addr) (m c : Nat) (news : List Value) (hl : news.length = m * size) (hr : SV w lo hi' A news) (h1 : ∀ u ∈ news, u.oneCell' = true)
    (h63 : n + m ≤ maxLen) (hbytes : (n + m) * bytes ≤ 140737488355328) (hbase : base ≤ w.heap.size) :
    ∃ v' w', (Builtin.append_ #[t, t] ty #[v, .slice A m c]).run P w = .ok v' w' ∧ w'.ownsRow base e size v' (n + m) (xs ++ news) ∧ w.grownBy w' v.ownBlock ∧
      (v'.ownBlock = v.ownBlock ∨ v'.ownBlock = some w.heap.size) := by
  rcases A with _ | ad
  · have hn : news = [] := by
      rcases Classical.em (news = []) with h0 | h0
      · exact h0
      · obtain ⟨b, off, h, _⟩ := hr h0
        cases h
    have hm : m = 0 := by
      subst hn
      rcases Nat.eq_zero_or_pos m with h0 | h0
      · exact h0
      · have := Nat.mul_pos h0 hsz
        simp at hl
        omega
    subst hm
    subst hn
    exact ⟨v, w, run_app_nil w base t ty e i size ht hi v n xs hown c, by simpa using hown, World.grownBy.refl w _, .inl rfl⟩
  · have hcells : ∀ j u, news[j]? = some u → w.cell? (ad.add j) = some u := by
      intro j u hu
      have hne : news ≠ [] := by rintro rfl; simp at hu
      obtain ⟨ad', h, hc⟩ := hr.news hne
      injection h with h
      subst h
      exact hc j u hu
    obtain ⟨v', w', hrun, h2, h3, _, h5⟩ := run_append_own_at (P := P) w base t ty e i z size bytes ht hi hz hsize hby hzs hsz v n xs hown ad m c news hl hcells h1 h63 hbytes hbase
    exact ⟨v', w', hrun, h2, h3, h5⟩

theorem wp_app {o : Oper} {a : Act} {K : Act → World → Prop} {Q : Exit → Act → World → Prop} (s x : Operand) (t : TypeId)
    (ho : o.op = .call { callee := .builtin .append, args := #[s, x], argTypes := #[t, t] })
    (base : Nat) (e : TypeId) (i : TypeInfo) (z : Value) (size bytes : Nat) (ht : P.underlying t = some (.slice e)) (hi : P.info? e = some i) (hz : i.zero = some z)
    (hsize : i.size = size) (hby : i.bytes = bytes) (hzs : z.cells.size = size) (hsz : 0 < size)
    (v : Value) (n : Nat) (xs : List Value) (hs : a.eval s = v) (hown : w.ownsRow base e size v n xs)
    (lo hi' : Nat) (A : Option Addr) (m c : Nat) (news : List Value) (hx : a.eval x = .slice A m c) (hl : news.length = m * size) (hr : SV w lo hi' A news) (h1 : ∀ u ∈ news, u.oneCell' = true)
    (h63 : n + m ≤ maxLen) (hbytes : (n + m) * bytes ≤ 140737488355328) (hbase : base ≤ w.heap.size)
    (h : ∀ v' w', w'.ownsRow base e size v' (n + m) (xs ++ news) → w.grownBy w' v.ownBlock → (v'.ownBlock = v.ownBlock ∨ v'.ownBlock = some w.heap.size) → K (a.put o.dst v') w') : o.wp P a w K Q := by
  obtain ⟨v', w', hrun, h2, h3, h4⟩ := run_app (P := P) w base t o.type e i z size bytes ht hi hz hsize hby hzs hsz v n xs hown lo hi' A m c news hl hr h1 h63 hbytes hbase
  unfold Oper.wp execOp
  simp only [ho, resolve, invoke, builtin, Sem.run_bind, Sem.run_pure, Result.andThen_ok, List.map_toArray, List.map_cons, List.map_nil, hs, hx, hrun]
  exact h v' w' h2 h3 h4

/-- 'out = append(out, xs...)', whatever xs is, out a slice of the call's own of one-cell elements. -/
theorem wpList_app {ops : Array Oper} {rest : List Oper} {o : Oper} {a : Act} {Q : Exit → Act → World → Prop} (hgd : o.guard = none) (s x : Operand) (t : TypeId)
    (ho : o.op = .call { callee := .builtin .append, args := #[s, x], argTypes := #[t, t] })
    (base : Nat) (e : TypeId) (i : TypeInfo) (z : Value) (bytes : Nat) (ht : P.underlying t = some (.slice e)) (hi : P.info? e = some i) (hz : i.zero = some z)
    (hsize : i.size = 1) (hby : i.bytes = bytes) (hzs : z.cells.size = 1)
    (v : Value) (xs : List Value) (hs : a.eval s = v) (hown : Own w base e v xs)
    (lo hi' : Nat) (A : Option Addr) (m c : Nat) (news : List Value) (hx : a.eval x = .slice A m c) (hl : news.length = m) (hr : SV w lo hi' A news) (h1 : ∀ u ∈ news, u.oneCell' = true)
    (h63 : xs.length + m ≤ maxLen) (hbytes : (xs.length + m) * bytes ≤ 140737488355328) (hbase : base ≤ w.heap.size)
    (h : ∀ v' w', Own w' base e v' (xs ++ news) → Below base w w' → w.heap.size ≤ w'.heap.size → wpList P ops Q rest (a.put o.dst v') w') : wpList P ops Q (o :: rest) a w :=
  wpList_plain hgd fun _ hK => wp_app w s x t ho base e i z 1 bytes ht hi hz hsize hby hzs (by omega) v xs.length xs hs hown lo hi' A m c news hx (by omega) hr h1 h63 hbytes hbase fun v' w' h2 h3 _ =>
    hK _ _ (h v' w' (by unfold Own; rw [List.length_append, hl]; exact h2)
      ((Below.refl _ _).grown h3 hbase (fun k hk => (World.ownsRow.lt hown k hk).1)) h3.size)
end

/-- A new cell, as a source of an append. -/
theorem sv_one (w : World) (u : Value) (t : TypeId) : SV (w.alloc (.cells #[u] t)) w.heap.size (w.heap.size + 1) (some ⟨w.heap.size, 0, none⟩) [u] := fun _ =>
  ⟨w.heap.size, 0, rfl, Nat.le_refl _, Nat.lt_succ_self _, fun j v hv => by
    have := cell_one_new w u t j v hv
    rw [Addr.add_lit] at this
    exact this⟩
theorem Own.alloc {w : World} {base : Nat} {e : TypeId} {v : Value} {xs : List Value} (h : Own w base e v xs) (o : Obj) : Own (w.alloc o) base e v xs := World.ownsRow.alloc h o

/-- What the laws ask of a slice type of one-cell elements. -/
structure ElT (P : Program) (t e : TypeId) (z : Value) (bytes : Nat) : Prop where
  und : P.underlying t = some (.slice e)
  info : ∃ i, P.info? e = some i ∧ i.zero = some z ∧ i.size = 1 ∧ i.bytes = bytes
  zc : z.cells.size = 1

theorem Own.base_le {w : World} {base : Nat} {e : TypeId} {v : Value} {xs : List Value} (h : Own w base e v xs) (hx : xs ≠ []) : base < w.heap.size := by
  obtain ⟨A, c, _, _, _, hs⟩ := h.sl
  obtain ⟨b, off, _, h1, h2, _⟩ := hs hx
  omega

section
variable {P : Program} {w : World} {ops : Array Oper} {rest : List Oper} {o : Oper} {a : Act} {Q : Exit → Act → World → Prop} {t e : TypeId} {z : Value} {bytes base : Nat}

/-- 'out = append(out, xs...)'. -/
theorem wp_appN (E : ElT P t e z bytes) (hgd : o.guard = none) (s x : Operand) (ho : o.op = .call { callee := .builtin .append, args := #[s, x], argTypes := #[t, t] })
    {v : Value} {xs : List Value} (hs : a.eval s = v) (hown : Own w base e v xs) {lo hi : Nat} {A : Option Addr} {m c : Nat} {news : List Value} (hx : a.eval x = .slice A m c) (hl : news.length = m) (hr : SV w lo hi A news)
    (h1 : ∀ u ∈ news, u.oneCell' = true) (hb : (xs.length + m) * (bytes + 1) ≤ 140737488355328) (hbase : base ≤ w.heap.size)
    (h : ∀ v' w', Own w' base e v' (xs ++ news) → Below base w w' → w.heap.size ≤ w'.heap.size → wpList P ops Q rest (a.put o.dst v') w') : wpList P ops Q (o :: rest) a w := by
  obtain ⟨i, hi, hz, hsz, hby⟩ := E.info
  rw [Nat.mul_add, Nat.mul_one] at hb
  exact wpList_app w hgd s x t ho base e i z bytes E.und hi hz hsz hby E.zc v xs hs hown lo _ A m c news hx hl hr h1 (by unfold maxLen; omega) (by omega) hbase h

/-- 'out = append(out, x)': x lies in a new cell. -/
theorem wp_app1 (E : ElT P t e z bytes) (hgd : o.guard = none) (s x : Operand) (ho : o.op = .call { callee := .builtin .append, args := #[s, x], argTypes := #[t, t] })
    {v : Value} {xs : List Value} {u : Value} {te : TypeId} (hs : a.eval s = v) (hown : Own w base e v xs) (hx : a.eval x = .slice (some ⟨w.heap.size, 0, none⟩) 1 1)
    (h1 : u.oneCell' = true) (hb : (xs.length + 1) * (bytes + 1) ≤ 140737488355328) (hbase : base ≤ w.heap.size)
    (h : ∀ v' w', Own w' base e v' (xs ++ [u]) → Below base w w' → w.heap.size ≤ w'.heap.size → wpList P ops Q rest (a.put o.dst v') w') : wpList P ops Q (o :: rest) a (w.alloc (.cells #[u] te)) := by
  refine wp_appN E hgd s x ho hs (hown.alloc _) hx rfl (sv_one w u te) (by intro y hy; simp at hy; subst hy; exact h1) hb (by simp; omega) fun v' w' g1 g2 g3 => h v' w' g1 ?_ ?_
  · exact ((Below.refl base w).alloc hbase _).trans g2
  · simp at g3; omega

/-- 'make([]T, n)': a new row of zeros. -/
theorem wp_make {k : IntKind} (E : ElT P t e (.int k 0) bytes) (hg : o.guard = none) (l c : Operand) (hop : o.op = Op.makeSlice t l c) {kl kc : IntKind} {L C : Int} (n : Nat)
    (hl : a.eval l = .int kl L) (hc : a.eval c = .int kc C) (hL : L = (n : Int)) (hC : C = (n : Int)) (hb : n * (bytes + 1) ≤ 140737488355328)
    (hK : ∀ g w', Hid (g = w.heap.size) → Row w' g e (cel k (List.replicate n 0)) → Below g w w' → Hid (w'.heap.size = g + 1) → wpList P ops Q rest (a.put o.dst (.slice (some ⟨g, 0, none⟩) n n)) w') :
    wpList P ops Q (o :: rest) a w := by
  obtain ⟨i, hi, hz, hsz, hby⟩ := E.info
  rw [Nat.mul_add, Nat.mul_one] at hb
  exact wpList_make_row w hg l c t hop e i k E.und hi hz hsz kl kc L C n hl hc hL hC (by rw [hby, Nat.mul_comm]; omega) (by unfold maxLen; omega) (fun w' g1 g2 g3 => hK _ w' rfl g1 g2 g3)

/-- 'make([]T, 0, n)'. -/
theorem wp_make0 (E : ElT P t e z bytes) (hg : o.guard = none) (l c : Operand) (hop : o.op = Op.makeSlice t l c) {kl kc : IntKind} {C : Int} (n : Nat)
    (hl : a.eval l = .int kl 0) (hc : a.eval c = .int kc C) (hC : C = (n : Int)) (hb : n * (bytes + 1) ≤ 140737488355328) (hbase : base ≤ w.heap.size)
    (hK : ∀ v w', Own w' base e v [] → Below w.heap.size w w' → w.heap.size ≤ w'.heap.size → wpList P ops Q rest (a.put o.dst v) w') :
    wpList P ops Q (o :: rest) a w := by
  obtain ⟨i, hi, hz, hsz, hby⟩ := E.info
  rw [Nat.mul_add, Nat.mul_one] at hb
  exact wpList_make_own w hg l c t hop base e i z 1 E.und hi hz hsz kl kc C n hl hc hC (by rw [hby, Nat.mul_comm]; omega) (by unfold maxLen; omega) hbase
    fun w' g1 g2 => hK _ w' g1 ((Below.refl _ _).grown g2 (Nat.le_refl _) (by simp)) g2.size
end

/-- A slice written out: a new block. -/
theorem isL_new (k : IntKind) (w : World) (t : TypeId) (l : List Nat) (h : l.length ≤ maxLen) :
    IsL k (w.alloc (.cells (cel k l).toArray t)) w.heap.size (w.heap.size + 1) (.slice (some ⟨w.heap.size, 0, none⟩) l.length l.length) l :=
  ⟨_, _, rfl, Nat.le_refl _, h, Row.sv (heap_alloc_new w _)⟩

/-- The world w' is w after some draws. -/
def Dr (w w' : World) : Prop := ∃ n, w' = w.drewN n
theorem Dr.refl (w : World) : Dr w w := ⟨0, rfl⟩
theorem Dr.drewN {w w' : World} (h : Dr w w') (n : Nat) : Dr w (w'.drewN n) := by
  obtain ⟨m, rfl⟩ := h
  exact ⟨m + n, World.drewN_drewN w m n⟩
theorem Dr.drew {w w' : World} (h : Dr w w') : Dr w w'.drew := h.drewN 1
theorem Dr.below {w w' : World} (h : Dr w w') (B : Nat) : Below B w w' := by
  obtain ⟨m, rfl⟩ := h
  exact below_drewN (Below.refl _ _) m
theorem Dr.size {w w' : World} (h : Dr w w') : w'.heap.size = w.heap.size := by
  obtain ⟨m, rfl⟩ := h
  rfl

/-- Block g alone has changed. -/
structure Only (g : Nat) (w w' : World) : Prop where
  os : w'.os = w.os
  tape : w'.tape = w.tape
  output : w'.output = w.output
  size : w'.heap.size = w.heap.size
  block : ∀ k, k ≠ g → w'.heap[k]? = w.heap[k]?
theorem Only.refl (g : Nat) (w : World) : Only g w w := ⟨rfl, rfl, rfl, rfl, fun _ _ => rfl⟩
theorem Only.trans {g : Nat} {a b c : World} (h : Only g a b) (k : Only g b c) : Only g a c :=
  ⟨k.os.trans h.os, k.tape.trans h.tape, k.output.trans h.output, k.size.trans h.size, fun i hi => (k.block i hi).trans (h.block i hi)⟩
theorem Only.drewN {g : Nat} {a b : World} (h : Only g a b) (n : Nat) : Only g a (b.drewN n) := h.trans ⟨rfl, rfl, rfl, rfl, fun _ _ => rfl⟩
theorem Only.setCell {g : Nat} {a b : World} (h : Only g a b) (i : Nat) (u : Value) : Only g a (b.setCell ⟨g, i, none⟩ u) :=
  h.trans ⟨rfl, rfl, rfl, by simp [World.setCell], fun k hk => Below.heap_setCell _ _ _ _ hk⟩
theorem Only.below {g B : Nat} {a b : World} (h : Only g a b) (hB : B ≤ g) : Below B a b := ⟨h.os, h.tape, h.output, Nat.le_of_eq h.size.symm, fun k hk => h.block k (by omega)⟩
theorem SV.only {w w' : World} {lo hi g : Nat} {A : Option Addr} {xs : List Value} (h : SV w lo hi A xs) (ho : Only g w w') (hg : g < lo ∨ hi ≤ g) : SV w' lo hi A xs :=
  h.keep fun p h1 h2 => World.cell?_of_block (ho.block p.block (by omega))
theorem Row.only {w w' : World} {g g' : Nat} {t : TypeId} {xs : List Value} (h : Row w g t xs) (ho : Only g' w w') (hg : g ≠ g') : Row w' g t xs := (ho.block g hg).trans h

theorem int_eq {k : IntKind} {a b : Int} (h : a = b) : Value.int k a = Value.int k b := by rw [h]
theorem slice_eq {A : Option Addr} {a b c : Nat} (h : a = b) : Value.slice A a c = Value.slice A b c := by rw [h]
theorem ret_int {k : IntKind} {a b : Int} (h : a = b) : Ending.returned (.int k a) = .returned (.int k b) := by rw [h]
theorem ret_bool {a b : Bool} (h : a = b) : Ending.returned (.bool a) = .returned (.bool b) := by rw [h]
end Go.Proofs.YtbeocfiimminiaaDoor
