/-
  Laws on make and append as one step of a region that draws its order.
-/
import Derived.Test.YtbeocfiimminiaaDoorWords
import Derived.Deep.RegionLaw
namespace Go.Proofs.YtbeocfiimminiaaDoor
open Go.RowKit
section
variable {P : Program} {w : World} {ops : Array Oper} {o : Oper} {a : Act} {K : Act → World → Prop} {Q : Exit → Act → World → Prop} {t e : TypeId} {z : Value} {bytes base : Nat} {E' : Prop}

theorem step_make {k : IntKind} (E : ElT P t e (.int k 0) bytes) (hg : o.guard = none) (l c : Operand) (hop : o.op = Op.makeSlice t l c) {kl kc : IntKind} {L C : Int} (n : Nat)
    (hl : a.eval l = .int kl L) (hc : a.eval c = .int kc C) (hL : L = (n : Int)) (hC : C = (n : Int)) (hb : n * (bytes + 1) ≤ 140737488355328)
    (h : ∀ g w', Hid (g = w.heap.size) → Row w' g e (cel k (List.replicate n 0)) → Below g w w' → Hid (w'.heap.size = g + 1) → K (a.put o.dst (.slice (some ⟨g, 0, none⟩) n n)) w') :
    if Region.wanted o (yielded ops a.tmps) = true then Oper.wp P o a w K Q else E' := by
  obtain ⟨i, h2, h3, h4, hby⟩ := E.info
  rw [Nat.mul_add, Nat.mul_one] at hb
  have b2 : i.bytes * n ≤ 281474976710656 := by rw [hby, Nat.mul_comm]; omega
  have hw : Region.wanted o (yielded ops a.tmps) = true := by simp [Region.wanted, hg]
  rw [if_pos hw]
  have hb' : (i.bytes : Int) * (n : Int) ≤ 281474976710656 := by
    have h : ((i.bytes * n : Nat) : Int) ≤ 281474976710656 := by omega
    rwa [Int.natCast_mul] at h
  have hr := run_make (P := P) w t e i (.int k 0) E.und h2 h3 kl kc n n (by omega) (Int.le_refl _) hb' (by omega)
  simp only [Int.toNat_natCast] at hr
  subst hL
  subst hC
  unfold Oper.wp
  simp [execOp, hop, hl, hc, hr, Result.andThen]
  refine h _ _ rfl ?_ ((Below.refl _ _).alloc (Nat.le_refl _) _) (by simp [Hid])
  unfold Row
  have hm : (cel k (List.replicate n 0)).toArray = madeCells (Value.int k 0).cells (n * i.size) := by
    apply Array.ext'
    rw [h4, Nat.mul_one]
    show _ = (madeCells #[.int k 0] n).toList
    rw [toList_madeCells_one]
    simp [cel]
  rw [hm]
  exact heap_alloc_new w _

/-- 'make([]T, n)' as an equation, in whatever world. -/
theorem make_rule {k : IntKind} (P : Program) {t e : TypeId} {bytes : Nat} (E : ElT P t e (.int k 0) bytes) (L : Int) (n : Nat) (hL : L = (n : Int)) (hb : n * (bytes + 1) ≤ 140737488355328) :
    ∃ zs : Array Value, zs = (cel k (List.replicate n 0)).toArray ∧ ∀ w : World, (Instr.makeSlice t (.int .i64 L) (.int .i64 L)).run P w = .ok (.slice (some ⟨w.heap.size, 0, none⟩) n n) (w.alloc (.cells zs e)) := by
  obtain ⟨i, h2, h3, h4, hby⟩ := E.info
  rw [Nat.mul_add, Nat.mul_one] at hb
  have b2 : i.bytes * n ≤ 281474976710656 := by rw [hby, Nat.mul_comm]; omega
  have hb' : (i.bytes : Int) * (n : Int) ≤ 281474976710656 := by
    have h : ((i.bytes * n : Nat) : Int) ≤ 281474976710656 := by omega
    rwa [Int.natCast_mul] at h
  refine ⟨_, rfl, fun w => ?_⟩
  have hr := run_make (P := P) w t e i (.int k 0) E.und h2 h3 .i64 .i64 n n (by omega) (Int.le_refl _) hb' (by omega)
  simp only [Int.toNat_natCast] at hr
  have hm : (cel k (List.replicate n 0)).toArray = madeCells (Value.int k 0).cells (n * i.size) := by
    apply Array.ext'
    rw [h4, Nat.mul_one]
    show _ = (madeCells #[.int k 0] n).toList
    rw [toList_madeCells_one]
    simp [cel]
  rw [hL, hm]
  exact hr

theorem step_app (E : ElT P t e z bytes) (hgd : o.guard = none) (s x : Operand) (ho : o.op = .call { callee := .builtin .append, args := #[s, x], argTypes := #[t, t] })
    {v : Value} {xs : List Value} (hs : a.eval s = v) (hown : Own w base e v xs) {lo hi : Nat} {A : Option Addr} {m c : Nat} {news : List Value} (hx : a.eval x = .slice A m c) (hl : news.length = m) (hr : SV w lo hi A news)
    (h1 : ∀ u ∈ news, u.oneCell' = true) (hb : (xs.length + m) * (bytes + 1) ≤ 140737488355328) (hbase : base ≤ w.heap.size)
    (h : ∀ v' w', Own w' base e v' (xs ++ news) → Below base w w' → w.heap.size ≤ w'.heap.size → K (a.put o.dst v') w') :
    if Region.wanted o (yielded ops a.tmps) = true then Oper.wp P o a w K Q else E' := by
  obtain ⟨i, hi, hz, hsz, hby⟩ := E.info
  rw [Nat.mul_add, Nat.mul_one] at hb
  have hw : Region.wanted o (yielded ops a.tmps) = true := by simp [Region.wanted, hgd]
  rw [if_pos hw]
  refine wp_app w s x t ho base e i z 1 bytes E.und hi hz hsz hby E.zc (by omega) v xs.length xs hs hown lo _ A m c news hx (by omega) hr h1 (by unfold maxLen; omega) (by omega) hbase fun v' w' h2 h3 _ =>
    h v' w' (by unfold Own; rw [List.length_append, hl]; exact h2) ((Below.refl _ _).grown h3 hbase (fun k hk => (World.ownsRow.lt hown k hk).1)) h3.size
end
end Go.Proofs.YtbeocfiimminiaaDoor
