/-
  Echelon, Kernel and Apply on the matrices that the law draws; the rest of a row.
-/
import Derived.Test.YtblpaocignlpkaaDoorProofVectorKernels05
import Derived.Test.YtblpaocignlpkaaDoorVkrn18
import Derived.Test.YtblpaocignlpkaaDoorVkrn13
import Derived.Test.YtblpaocignlpkaaDoorVkrn10
import Derived.Test.YtblpaocignlpkaaDoorVkrn07
import Derived.Test.YtblpaocignlpkaaDoorVkrn03
import Derived.Test.YtblpaocignlpkaaDoorVkrn06
import Derived.Test.YtblpaocignlpkaaDoorVkrn02
import Derived.Test.YtblpaocignlpkaaDoorProofVectorKernels04
import Derived.Test.YtblpaocignlpkaaDoorVkrn09
namespace Go.Proofs.YtblpaocignlpkaaDoor
open Go.RowKit
set_option linter.unusedVariables false
theorem zdm {n m : Nat} {b : List (List Rat)} (h : DrawnM n m b) (hn : n ≤ 5) (x y : Nat) (_ : x < n) (_ : y < m) : (zcw b x y).natAbs ≤ 1536 := lift12 (h.twelve hn) x y
theorem ech_d {w : World} {v : Value} {b : List (List Rat)} {n m : Nat} {s : RS} (h : IsM w (Old w) v (rawM b)) (hB : Bru w) (hd : DrawnM n m b) (hn1 : 1 ≤ n) (hn5 : n ≤ 5) (hm1 : 1 ≤ m) (hm5 : m ≤ 5) (hs : s = runK n m (zcw b) m) :
    Calls Tryd.prog 25 #[v] w fun e w' => (∃ v' vp, e = .returned (.tuple #[v', vp, .int .i64 0]) ∧ IsM w' (Old w') v' (rawM (zcu s m n)) ∧ IsPv w' (Old w') vp s.piv) ∧ Below w.heap.size w w' := by
  have hl := hd.len
  have hz : ∀ r ∈ b, ∀ q ∈ r, Sz q 1024 := fun r hr q hq => (hd.sz hn5 r hr q hq).le (by omega)
  refine echelon_l h hB hl hd.row hz hn1 (by omega) hm1 (by omega) (chkM_raw (by omega) (by omega) hd.row hz) (fun k hk => bnd_run5 (zdm hd hn5) hk (by omega)) hs fun r hr q hq => ?_
  rw [hs] at hr
  exact (form_sz (zdm hd hn5) hm5 r hr q hq).le (by omega)
theorem ker_d {w : World} {v : Value} {b : List (List Rat)} {n m : Nat} {s : RS} (h : IsM w (Old w) v (rawM b)) (hB : Bru w) (hd : DrawnM n m b) (hn1 : 1 ≤ n) (hn5 : n ≤ 5) (hm1 : 1 ≤ m) (hm5 : m ≤ 5) (hs : s = runK n m (zcw b) m) :
    Calls Tryd.prog 26 #[v] w fun e w' => (∃ v', e = .returned (.tuple #[v', .int .i64 0]) ∧ IsM w' (Old w') v' (rawM (kerQ s m m))) ∧ Below w.heap.size w w' := by
  have hl := hd.len
  have hz : ∀ r ∈ b, ∀ q ∈ r, Sz q 1024 := fun r hr q hq => (hd.sz hn5 r hr q hq).le (by omega)
  refine kernel_l h hB hl hd.row hz hn1 (by omega) hm1 (by omega) (chkM_raw (by omega) (by omega) hd.row hz) (fun k hk => bnd_run5 (zdm hd hn5) hk (by omega)) hs (fun t f _ hf => ?_) fun r hr q hq => ?_
  · rw [hs]
    exact (at_run5 (zdm hd hn5) (Nat.le_refl m) hm5 hf).le (by omega)
  · rw [hs] at hr
    exact (ker_sz (zdm hd hn5) hm5 r hr q hq).le (by omega)
theorem apply_d {w : World} {v vx : Value} {M : List (List Rat)} {x : List Rat} {n m : Nat} (h : IsM w (Old w) v (rawM M)) (hx : IsV w (Old w) vx (rawV x)) (hB : Bru w) (hn : M.length = n) (hrow : ∀ r ∈ M, r.length = m) (hn1 : 1 ≤ n) (hn5 : n ≤ 5) (hm5 : m ≤ 5) (hxl : x.length = m) (hs : ∀ r ∈ M, ∀ q ∈ r, Sz q 13) (hsx : ∀ q ∈ x, Sz q 13) :
    Calls Tryd.prog 28 #[v, vx] w fun e w' => (∃ v', e = .returned (.tuple #[v', .int .i64 0]) ∧ IsV w' (Old w') v' (rawV (zex M x))) ∧ Below w.heap.size w w' := by
  have hz : ∀ r ∈ M, ∀ q ∈ r, Sz q 1024 := fun r hr q hq => (hs r hr q hq).le (by omega)
  have hzx : ∀ q ∈ x, Sz q 1024 := fun q hq => (hsx q hq).le (by omega)
  refine vApply_good h hx hB hn hrow hn1 (by omega) (by omega) hxl (chkM_raw (by omega) (by omega) hrow hz) (chkV_raw (by omega) hzx) hz hzx fun q hq => ?_
  obtain ⟨r, hr, rfl⟩ := List.mem_map.1 hq
  exact dotQ_little (k := 13) (by rw [hrow r hr]; omega) (hs r hr) hsx (by omega)
theorem isR_isQ' {w : World} {S : Nat → Prop} {v : Value} {r : Raw} {x : Rat} (h : IsR w S v r) (e : r = raw x) : IsQ w S v x := by subst e; exact h
theorem same_back {w w' : World} (h : Below w.heap.size w w') : Same (Old w) (Old w) w' w := fun b hb => ⟨hb, fun o => (h.cell (p := ⟨b, o, none⟩) hb).symm⟩
theorem short_sz {q : List Rat} (h : ∀ x ∈ q, Sz x 1) : ShortV (rawV q) := fun r hr => by
  obtain ⟨x, hx, rfl⟩ := List.mem_map.1 hr
  have h1 := (h x hx).1
  have h2 := (h x hx).2
  exact ⟨Nat.le_trans h1 (by omega), Nat.le_trans h2 (by omega)⟩
section
variable {n m : Nat} {b : List (List Rat)} {s : RS}
def zfe (r : List Rat) (s : RS) (k x : Nat) : Rat := r.getD x 0 + sumN k fun t => (-(r.getD (s.piv.getD t 0) 0)) * atQ s.A s.piv.length s.d t x
def zdg (r : List Rat) (s : RS) (m k j : Nat) : List Rat := (List.range m).map fun x => if x < j then zfe r s (k + 1) x else zfe r s k x
theorem zeo (r : List Rat) (s : RS) (m k j : Nat) : (zdg r s m k j).length = m := by simp [zdg]
theorem restTo_start {r : List Rat} {s : RS} {m : Nat} (h : r.length = m) : zdg r s m 0 0 = r := by
  apply List.ext_getElem
  · rw [zeo, h]
  · intro i h1 h2
    simp only [zdg, List.getElem_map, List.getElem_range]
    rw [if_neg (by omega), zfe, List.getD_eq_getElem?_getD, List.getElem?_eq_getElem h2]
    simp only [sumN, Option.getD_some]
    grind
theorem restTo_line (r : List Rat) (s : RS) (m k : Nat) : zdg r s m k m = zdg r s m (k + 1) 0 := by
  refine List.map_congr_left fun x hx => ?_
  rw [if_pos (List.mem_range.1 hx), if_neg (by omega)]
theorem restTo_at (r : List Rat) (s : RS) {m k j : Nat} (hj : j < m) : (zdg r s m k j)[j]? = some (zfe r s k j) := by
  rw [zdg, List.getElem?_map, List.getElem?_range hj]
  simp
theorem restAt_next (r : List Rat) (s : RS) (k x : Nat) : zfe r s (k + 1) x = zfe r s k x + (-(r.getD (s.piv.getD k 0) 0)) * atQ s.A s.piv.length s.d k x := by
  unfold zfe
  rw [sumN]
  grind
theorem restTo_next (r : List Rat) (s : RS) {m k j : Nat} (hj : j < m) : zdg r s m k (j + 1) = (zdg r s m k j).set j (zfe r s (k + 1) j) := by
  apply List.ext_getElem
  · rw [List.length_set, zeo, zeo]
  · intro i h1 h2
    rw [List.getElem_set]
    simp only [zdg, List.getElem_map, List.getElem_range]
    by_cases e : j = i
    · subst e
      rw [if_pos rfl, if_pos (by omega)]
    · rw [if_neg e]
      by_cases e2 : i < j
      · rw [if_pos e2, if_pos (by omega)]
      · rw [if_neg e2, if_neg (by omega)]
theorem restTo_end {Ms : Nat → Nat → Int} (h : Elim n m (zcw b) m s Ms) (hn : b.length = n) (hrow : ∀ r ∈ b, r.length = m) {i : Nat} {r : List Rat} (hr : b[i]? = some r) : zdg r s m s.piv.length 0 = List.replicate m 0 := by
  rw [List.eq_replicate_iff]
  refine ⟨zeo _ _ _ _ _, fun q hq => ?_⟩
  obtain ⟨x, hx, rfl⟩ := List.mem_map.1 hq
  rw [if_neg (by omega), zfe, form_sum h hn hrow hr (List.mem_range.1 hx)]
  have e : (sumN s.piv.length fun t => (-(r.getD (s.piv.getD t 0) 0)) * atQ s.A s.piv.length s.d t x) = (-1) * sumN s.piv.length fun t => r.getD (s.piv.getD t 0) 0 * atQ s.A s.piv.length s.d t x := by
    rw [← zdj]
    exact zcg fun t _ => by grind
  rw [e]
  grind
theorem getD_sz {r : List Rat} {k : Nat} (h : ∀ q ∈ r, Sz q k) (hk : 1 ≤ k) (x : Nat) : Sz (r.getD x 0) k := by
  rw [List.getD_eq_getElem?_getD]
  rcases e : r[x]? with _ | q
  · exact Sz.zero.le hk
  · exact h q (List.mem_of_getElem? e)
theorem restAt_sz {r : List Rat} (hr : ∀ q ∈ r, Sz q 1) {x : Nat} (hat : ∀ t, Sz (atQ s.A s.piv.length s.d t x) 13) : ∀ k, Sz (zfe r s k x) (1 + 15 * k) := by
  intro k
  induction k with
  | zero =>
    have e : zfe r s 0 x = r.getD x 0 := by unfold zfe; simp only [sumN]; grind
    rw [e]
    exact getD_sz hr (by omega) x
  | succ k ih =>
    rw [restAt_next]
    exact (ih.add ((getD_sz hr (by omega) _).neg.mul (hat k))).le (by omega)
theorem zfr {k i : Nat} (hi : i < k) : (zcu s m k)[i]? = some (rowQ s.A s.piv.length s.d i 0 m) := by
  unfold zcu
  rw [List.getElem?_map, List.getElem?_range hi]
  rfl
theorem rowQ_zero {A : Nat → Nat → Int} {np d i k0 cnt : Nat} (h : np ≤ i) : rowQ A np d i k0 cnt = List.replicate cnt 0 := by
  rw [List.eq_replicate_iff]
  refine ⟨zdi _ _ _ _ _ _, fun q hq => ?_⟩
  obtain ⟨x, hx, rfl⟩ := List.mem_map.1 hq
  exact atQ_out (by omega)
theorem rowQ_get {A : Nat → Nat → Int} {np d i k0 cnt j : Nat} (h : j < cnt) : (rowQ A np d i k0 cnt)[j]? = some (atQ A np d i (k0 + j)) := by
  unfold rowQ
  rw [List.getElem?_map, List.getElem?_range h]
  rfl
theorem rowQ_low {A0 : Nat → Nat → Int} {Ms : Nat → Nat → Int} (h : Elim n m A0 m s Ms) {i : Nat} (hi : i < s.piv.length) : (rowQ s.A s.piv.length s.d i 0 m).take (s.piv.getD i 0) = List.replicate (s.piv.getD i 0) 0 := by
  have hp := h.lt i hi
  apply List.ext_getElem
  · rw [List.length_take, zdi, List.length_replicate]; omega
  · intro x h1 h2
    rw [List.length_replicate] at h2
    rw [List.getElem_take, List.getElem_replicate]
    have := rowQ_get (A := s.A) (np := s.piv.length) (d := s.d) (i := i) (k0 := 0) (cnt := m) (j := x) (by omega)
    rw [List.getElem?_eq_getElem (by rw [zdi]; omega)] at this
    rw [Option.some.inj this, Nat.zero_add]
    exact h.low hi h2
end
theorem fin3S {wB w5 X : World} {S : Nat → Prop} {g : Nat} {a b c : Value} {q : Rat} (hv : IsQ w5 S (.agg #[a, b, c]) q) (hS : ∀ b, S b → b < wB.heap.size) (hB : Below wB.heap.size wB w5) (hX : Below wB.heap.size wB X) (hr : Below (X.alloc zRat).heap.size (X.alloc zRat) w5) (hg : X.heap.size = g) :
    ∃ W, put3 w5 g a b c = W ∧ Below wB.heap.size wB W ∧ Row W g 50 [a, b, c] ∧ IsQ W S (.agg #[a, b, c]) q ∧ Hid (wB.heap.size ≤ g) := by
  subst hg
  refine ⟨_, rfl, zaf hB hX a b c, Row.put3 (Row.next (heap_alloc_new X zRat) hr) a b c, ?_, hX.size⟩
  refine IsQ.stb.to hv (zbz fun x hx => ⟨?_, hx⟩)
  have := hS x hx
  have := hX.size
  omega
theorem fin3SL {wB w5 : World} {S : Nat → Prop} {a b c : Value} {q : Rat} (hv : IsQ w5 S (.agg #[a, b, c]) q) (hS : ∀ b, S b → b < wB.heap.size) (hB : Below wB.heap.size wB w5) :
    ∃ W, w5.alloc (.cells #[a, b, c] 50) = W ∧ Below wB.heap.size wB W ∧ Row W w5.heap.size 50 [a, b, c] ∧ IsQ W S (.agg #[a, b, c]) q ∧ Hid (wB.heap.size ≤ w5.heap.size) := by
  refine ⟨_, rfl, zae hB _, heap_alloc_new w5 _, ?_, hB.size⟩
  refine IsQ.stb.to hv fun x hx => ⟨hx, fun o => ?_⟩
  exact (zbp w5 _).cell (p := ⟨x, o, none⟩) (Nat.lt_of_lt_of_le (hS x hx) hB.size)
theorem Stb.drawn {α : Type} {R : World → (Nat → Prop) → Value → α → Prop} (hR : Stb R) {w w' : World} {g n : Nat} {v : Value} {x : α} (h : R w (New n w) v x) (hb : w.grownBy w' (some g)) (hg : g < n) : R w' (New n w') v x :=
  hR.to h fun b hb' => ⟨⟨hb'.1, Nat.lt_of_lt_of_le hb'.2 hb.size⟩, fun o => World.cell?_of_block (hb.block b hb'.2 (fun e => by have := hb'.1; cases e; omega))⟩
theorem matrix_i {w : World} {g : Nat} {l : List Int} (hD : IsD w g l) {n m : Nat} {z y : Int} (hz : z = (n : Int)) (hy : y = (m : Int)) (hn : n ≤ 5) (hm : m ≤ 5) : Calls Tryd.prog 24 #[.pointer (some ⟨g, 0, none⟩), .int .i64 z, .int .i64 y] w (DrewR IsM (fun a => ∃ M : List (List Rat), a = rawM M ∧ DrawnM n m M) w g l) := by
  rw [hz, hy]; exact matrix_l hD hn hm
theorem IsS.takeS {α : Type} {n : Nat} {R : World → (Nat → Prop) → Value → α → Prop} {w : World} {S : Nat → Prop} {A : Option Addr} {m c : Nat} {l : List α} (h : IsS n R w S (.slice A m c) l) {p : Nat} (hp : p ≤ m) : IsS n R w S (.slice A p c) (l.take p) := by
  obtain ⟨A', c', es, hv, h1, h2, h3, h4, h5⟩ := h
  simp only [Value.slice.injEq] at hv
  obtain ⟨rfl, rfl, rfl⟩ := hv
  have e : (l.take p).length = p := by simp; omega
  refine ⟨A, c, es.take p, by rw [e], by omega, h2, ?_, h4.take p, h5.take p⟩
  rw [cellsOf_take h4]
  intro hx
  obtain ⟨b, off, hA, hb, hc⟩ := h3 (fun e => hx (by rw [e]; simp))
  exact ⟨b, off, hA, hb, fun j v hj => hc j v (by rw [List.getElem?_take] at hj; split at hj; exact hj; cases hj)⟩
theorem IsS.dropS {α : Type} {n : Nat} {R : World → (Nat → Prop) → Value → α → Prop} {w : World} {S : Nat → Prop} {b off : Nat} {m c : Nat} {l : List α} (h : IsS n R w S (.slice (some ⟨b, off, none⟩) m c) l) {p : Nat} (hp : p ≤ m) : IsS n R w S (.slice (some ⟨b, off + p * n, none⟩) (m - p) (c - p)) (l.drop p) := by
  obtain ⟨A', c', es, hv, h1, h2, h3, h4, h5⟩ := h
  simp only [Value.slice.injEq] at hv
  obtain ⟨rfl, rfl, rfl⟩ := hv
  have e : (l.drop p).length = l.length - p := by simp
  refine ⟨_, c - p, es.drop p, by rw [e], by omega, by omega, ?_, h4.drop p, h5.drop p⟩
  rw [cellsOf_drop h4]
  intro hx
  obtain ⟨b', off', hA, hb, hc⟩ := h3 (fun e => hx (by rw [e]; simp))
  cases hA
  exact ⟨b, off + p * n, rfl, hb, fun j v hj => by rw [List.getElem?_drop] at hj; rw [Nat.add_assoc]; exact hc _ v hj⟩
theorem IsS.cap {α : Type} {n : Nat} {R : World → (Nat → Prop) → Value → α → Prop} {w : World} {S : Nat → Prop} {A : Option Addr} {m c : Nat} {l : List α} (h : IsS n R w S (.slice A m c) l) : m ≤ c ∧ c ≤ maxLen := by
  obtain ⟨A', c', es, hv, h1, h2, _⟩ := h
  simp only [Value.slice.injEq] at hv
  obtain ⟨rfl, rfl, rfl⟩ := hv
  exact ⟨h1, h2⟩
theorem isV_at {w : World} {S : Nat → Prop} {b off m c p : Nat} {l : List Raw} {r : Raw} (h : IsV w S (.slice (some ⟨b, off, none⟩) m c) l) (hr : l[p]? = some r) : IsV w S (.slice (some ⟨b, off + p * 3, none⟩) 1 (c - p)) [r] := by
  have hp : p < l.length := (List.getElem?_eq_some_iff.1 hr).1
  have hm : m = l.length := by
    obtain ⟨A', c', es, hv, _⟩ := h
    simp only [Value.slice.injEq] at hv
    exact hv.2.1
  have h1 := IsS.takeS (IsS.dropS h (p := p) (by omega)) (p := 1) (by omega)
  have e : (l.drop p).take 1 = [r] := by
    rw [List.drop_eq_getElem_cons hp, List.take_succ_cons, List.take_zero, (List.getElem?_eq_some_iff.1 hr).2]
  rw [e] at h1
  exact h1
set_option maxRecDepth 100000 in
set_option maxHeartbeats 4000000 in
theorem zero_l {w : World} {S : Nat → Prop} {v : Value} {n : Nat} {z : Int} (h : IsV w S v (rawV (List.replicate n 0))) (hz : z = (n : Int)) :
    Calls Tryd.prog 27 #[v, .int .i64 z] w fun e w' => e = .returned (.bool true) ∧ w' = w := by
  subst hz
  have H := Lib.hid h
  obtain ⟨A, c, rfl, hl⟩ := zcb h
  have e : (rawV (List.replicate n (0 : Rat))).length = n := by rw [zbj, List.length_replicate]
  rw [e] at hl H ⊢
  clear h e
  go_enter Tryd.func27, Tryd.ntmps27
  go_wp2_with fail
  go_loopw [5] (fun i wr => ∃ k : Nat, k ≤ n ∧ i = .int .i64 (k : Int) ∧ wr = w) (fun i _ => n - (intOf i).toNat)
  case atStart => exact ⟨0, Nat.zero_le _, rfl, rfl⟩
  case round =>
    obtain ⟨k, hk, rfl, rfl⟩ := hrel
    rcases Nat.lt_or_ge k n with hlt | hge
    · obtain ⟨b, off, P, kP, Q, kQ, rfl, hSb, hel, c0, c1, c2⟩ := zcs H.out (j := k) (r := raw 0) (by rw [rawV, List.getElem?_map, List.getElem?_replicate, if_pos hlt]; rfl)
      rw [raw_zero] at c1 c2
      have cr := zbn
      clear hel c0
      go_wp2_with fail
      go_roundw
      case rel => exact ⟨k + 1, by omega, by go_num, trivial⟩
      case measure => simp [intOf]; omega
    · obtain rfl : k = n := by omega
      go_wp2_with fail
      go_ret
      exact ⟨rfl, rfl⟩
theorem run_fresh {P : Program} {t e : TypeId} {bytes : Nat} {k : IntKind} (E : ElT P t e (.int k 0) bytes) (ty : TypeId) (w : World) (g : Nat) {A : Option Addr} {m c : Nat} {l : List Nat} (h : IsK k w (Old w) (.slice A m c) l) (hb : l.length * (bytes + 1) ≤ 140737488355328) :
    ∃ v' w', (Builtin.append_ #[t, t] ty #[.slice (some ⟨g, 0, none⟩) 0 0, .slice A m c]).run P w = .ok v' w' ∧ Below w.heap.size w w' ∧ IsK k w' (New w.heap.size w') v' l := by
  obtain ⟨A', c', hv, h1, h2, h3⟩ := h
  simp only [Value.slice.injEq] at hv
  obtain ⟨rfl, rfl, rfl⟩ := hv
  obtain ⟨i, hi, hz, hsz, hby⟩ := E.info
  rw [Nat.mul_add, Nat.mul_one] at hb
  rcases Nat.eq_zero_or_pos l.length with h0 | h0
  · obtain rfl := List.eq_nil_of_length_eq_zero h0
    refine ⟨.slice (some ⟨g, 0, none⟩) 0 0, w, ?_, Below.refl _ _, some ⟨g, 0, none⟩, 0, rfl, Nat.le_refl _, Nat.zero_le _, SVS.nil⟩
    cases A with
    | none => simp [Builtin.append_, run_underlying E.und, sizeOf, typeInfo, hi, Builtin.lenOf, Builtin.firstCells, storeCells]
    | some a0 =>
      have hr : (loadCells a0 0).run P w = .ok #[] w := run_loadCells_list w a0 [] (fun j v hv => by simp at hv)
      simp [Builtin.append_, run_underlying E.und, sizeOf, typeInfo, hi, Builtin.lenOf, Builtin.firstCells, storeCells, hr]
  · obtain ⟨b, off, rfl, hbS, hc⟩ := h3 (by intro e0; have := congrArg List.length e0; simp [cel] at this; rw [this] at h0; simp at h0)
    have hl1 : (cel k l).length = l.length * i.size := by rw [hsz]; simp [cel]
    have hbs : b < w.heap.size := hbS
    have hcell : ∀ j v, (cel k l)[j]? = some v → w.cell? ((⟨b, off, none⟩ : Addr).add j) = some v := fun j v hv => by rw [Addr.add_lit]; exact hc j v hv
    have hlm : l.length ≤ maxLen := Nat.le_trans h1 h2
    have hrun := run_append_grow (P := P) (w := w) t ty e i (.int k 0) E.und hi hz ⟨g, 0, none⟩ 0 0 [] (by simp) (fun j v hv => by simp at hv) ⟨b, off, none⟩ l.length c (cel k l) hl1 hcell (by omega)
      (by unfold maxLen at hlm; omega) (by rw [Nat.zero_add, nextslicecap_zero h0, hby]; omega)
    rw [Nat.zero_add] at hrun
    obtain ⟨zs, hzs⟩ : ∃ zs, zs = Builtin.zeroCells (Value.int k 0).cells (grownCap w l.length 0 e - l.length) := ⟨_, rfl⟩
    rw [← hzs] at hrun
    obtain ⟨arr, harr⟩ : ∃ arr, arr = (([] : List Value).toArray ++ (cel k l).toArray ++ zs) := ⟨_, rfl⟩
    rw [← harr] at hrun
    refine ⟨_, _, hrun, ?_, ?_⟩
    · exact zae (zac w) _
    · have hge := grownCap_ge w l.length 0 e
      have hcm := grownCap_le_maxLen w l.length 0 e hlm
      refine ⟨some ⟨w.heap.size, 0, none⟩, grownCap w l.length 0 e, rfl, hge, hcm, fun _ => ⟨w.heap.size, 0, rfl, ⟨Nat.le_refl _, by simp⟩, fun j v hv => ?_⟩⟩
      have hj := (List.getElem?_eq_some_iff.1 hv).1
      show (w.drew.alloc (.cells arr e)).cell? _ = _
      have hr : Row (w.drew.alloc (.cells arr e)) w.drew.heap.size e arr.toList := heap_alloc_new w.drew _
      have h1 := hr.cell j
      rw [Nat.zero_add]
      refine h1.trans ?_
      have e1 : arr.toList = cel k l ++ zs.toList := by rw [harr]; simp
      rw [e1, List.getElem?_append_left (by simpa using hj)]
      exact hv
theorem getD_some {T : Array Value} {t : Nat} {v : Value} (h : T[t]? = some v) : T.getD t undef = v := by simp [Array.getD_eq_getD_getElem?, h]
theorem wp_fresh {P : Program} {t e : TypeId} {bytes : Nat} {k : IntKind} (E : ElT P t e (.int k 0) bytes) {w : World} {o : Oper} {a : Act} {K : Act → World → Prop} {Q : Exit → Act → World → Prop} (s x : Operand)
    (ho : o.op = .call { callee := .builtin .append, args := #[s, x], argTypes := #[t, t] }) {g : Nat} {A : Option Addr} {m c : Nat} {l : List Nat} (hs : a.eval s = .slice (some ⟨g, 0, none⟩) 0 0) (hx : a.eval x = .slice A m c)
    (h : IsK k w (Old w) (.slice A m c) l) (hb : l.length * (bytes + 1) ≤ 140737488355328)
    (hK : ∀ v' w', Below w.heap.size w w' → IsK k w' (New w.heap.size w') v' l → K (a.put o.dst v') w') : o.wp P a w K Q := by
  obtain ⟨v', w', hrun, h1, h2⟩ := run_fresh E o.type w g h hb
  unfold Oper.wp execOp
  simp only [ho, resolve, invoke, builtin, Sem.run_bind, Sem.run_pure, Result.andThen_ok, List.map_toArray, List.map_cons, List.map_nil, hs, hx, hrun]
  exact hK v' w' h1 h2
theorem open14 {l : List Value} (h : l.length = 14) : ∃ fs : Nat → Value, l = [fs 0, fs 1, fs 2, fs 3, fs 4, fs 5, fs 6, fs 7, fs 8, fs 9, fs 10, fs 11, fs 12, fs 13] := by
  refine ⟨fun i => l.getD i undef, ?_⟩
  have e : l = (List.range 14).map (fun i => l.getD i undef) := by
    apply List.ext_getElem
    · simp [h]
    · intro i h1 h2
      simp [List.getD_eq_getElem?_getD, List.getElem?_eq_getElem h1]
  exact e.trans rfl
def OwnPhi (w00 : World) (r : Raw) (A : Option Addr) (cA : Nat) (B : Option Addr) (cB : Nat) (n0 : Nat) (i : Nat) (v : Value) (w : World) : Prop :=
  match i with
  | 0 => v = .pointer (some ⟨w00.heap.size, 0, none⟩)
  | 1 => v = .bool r.neg
  | 2 => ∃ g, v = .slice (some ⟨g, 0, none⟩) 0 0
  | 3 => v = .pointer (some ⟨w00.heap.size, 1, none⟩)
  | 4 => v = .slice A r.num.length cA
  | 5 => IsK .u32 w (New n0 w) v r.num
  | 6 => ∃ g, v = .slice (some ⟨g, 0, none⟩) 0 0
  | 7 => v = .pointer (some ⟨w00.heap.size, 2, none⟩)
  | 8 => v = .slice B r.den.length cB
  | 9 => IsK .u32 w (New n0 w) v r.den
  | 10 => IsR w (New n0 w) v r
  | _ => True
theorem ownPhi_stb (w00 : World) (r : Raw) (A : Option Addr) (cA : Nat) (B : Option Addr) (cB : Nat) (n0 : Nat) : ∀ (i : Nat) (v : Value) (w w' : World), OwnPhi w00 r A cA B cB n0 i v w → Below w.heap.size w w' → OwnPhi w00 r A cA B cB n0 i v w' := fun i v w w' h hb => match i, h with
  | 0, h => h
  | 1, h => h
  | 2, h => h
  | 3, h => h
  | 4, h => h
  | 5, h => IsK.stb.fresh h hb
  | 6, h => h
  | 7, h => h
  | 8, h => h
  | 9, h => IsK.stb.fresh h hb
  | 10, h => IsR.stb.fresh h hb
  | _ + 11, _ => trivial
set_option maxRecDepth 100000 in
set_option maxHeartbeats 4000000 in
theorem own_r {w : World} {v : Value} {r : Raw} (h : IsR w (Old w) v r) (hn : r.num.length ≤ 1000) (hd : r.den.length ≤ 1000) :
    Calls Tryd.prog 78 #[v] w fun e w' => (∃ v', e = .returned v' ∧ IsR w' (New w.heap.size w') v' r) ∧ Below w.heap.size w w' := by
  have Hn := Lib.hid hn
  have Hd := Lib.hid hd
  obtain ⟨A, cA, B, cB, rfl, h1, h2⟩ := h
  have HN := Lib.hid h1
  have HD := Lib.hid h2
  clear h1 h2 hn hd
  obtain ⟨w0, hw0, hb0, rA, rZ, Hz⟩ := zep w #[.bool r.neg, .slice A r.num.length cA, .slice B r.den.length cB] #[.bool false, .slice none 0 0, .slice none 0 0] 50 50
  have HB0 := Lib.hid hb0
  have RA := Lib.hid rA
  have RZ := Lib.hid rZ
  clear hb0 rA rZ
  go_enter Tryd.func78, Tryd.ntmps78
  go_wp2_with fail
  clear hw0
  refine zen fun ops hops => ?_
  have oq0 := zar (j := 0) hops rfl
  have oq1 := zar (j := 1) hops rfl
  have oq2 := zar (j := 2) hops rfl
  have oq3 := zar (j := 3) hops rfl
  have oq4 := zar (j := 4) hops rfl
  have oq5 := zar (j := 5) hops rfl
  have oq6 := zar (j := 6) hops rfl
  have oq7 := zar (j := 7) hops rfl
  have oq8 := zar (j := 8) hops rfl
  have oq9 := zar (j := 9) hops rfl
  have oq10 := zar (j := 10) hops rfl
  have oq11 := zar (j := 11) hops rfl
  have fr := fun t h => slotN_abs (n := 11) hops t h
  refine wp_region_growS 11 (OwnPhi w r A cA B cB w0.heap.size) (by kernel_rfl) (ownPhi_stb w r A cA B cB w0.heap.size) (by rw [hops]; kernel_rfl) ?step ?fin
  case step =>
    intro i o hin hi a W hsz hdf hbw hfree hdep
    obtain ⟨T, df⟩ := a
    replace hsz : T.size = 14 := hsz
    obtain rfl : df = [] := hdf
    match i, hin, hi with
    | 0, _, hi =>
      obtain rfl := Option.some.inj (oq0.symm.trans hi)
      have e1 : T[1]? = some (.pointer (some ⟨w.heap.size, 0, none⟩)) := hfree 1 (fr 1 (by kernel_rfl))
      refine zah rfl ?_
      clear hdep hfree hsz hops fr oq0 oq1 oq2 oq3 oq4 oq5 oq6 oq7 oq8 oq9 oq10 oq11
      refine zao fun K hK => ?_
      go_simp
      exact hK (.pointer (some ⟨w.heap.size, 0, none⟩)) _ (Below.refl _ _) (rfl)
    | 1, _, hi =>
      obtain rfl := Option.some.inj (oq1.symm.trans hi)
      have e3 : T[3]? = some (.pointer (some ⟨w.heap.size, 0, none⟩)) := zal (by omega) (hdep 0 _ 3 (odt (by kernel_rfl)) oq0 rfl)
      refine zah rfl ?_
      clear hdep hfree hsz hops fr oq0 oq1 oq2 oq3 oq4 oq5 oq6 oq7 oq8 oq9 oq10 oq11
      obtain ⟨c0, c1, c2⟩ := zad (RA.out.next hbw)
      refine zao fun K hK => ?_
      go_simp
      exact hK (.bool r.neg) _ (Below.refl _ _) (rfl)
    | 2, _, hi =>
      obtain rfl := Option.some.inj (oq2.symm.trans hi)
      refine zah rfl ?_
      clear hdep hfree hsz hops fr oq0 oq1 oq2 oq3 oq4 oq5 oq6 oq7 oq8 oq9 oq10 oq11
      refine zao fun K hK => ?_
      go_simp
      exact hK (.slice (some ⟨W.heap.size, 0, none⟩) 0 0) _ (zbp _ _) ⟨_, rfl⟩
    | 3, _, hi =>
      obtain rfl := Option.some.inj (oq3.symm.trans hi)
      have e1 : T[1]? = some (.pointer (some ⟨w.heap.size, 0, none⟩)) := hfree 1 (fr 1 (by kernel_rfl))
      refine zah rfl ?_
      clear hdep hfree hsz hops fr oq0 oq1 oq2 oq3 oq4 oq5 oq6 oq7 oq8 oq9 oq10 oq11
      refine zao fun K hK => ?_
      go_simp
      exact hK (.pointer (some ⟨w.heap.size, 1, none⟩)) _ (Below.refl _ _) (rfl)
    | 4, _, hi =>
      obtain rfl := Option.some.inj (oq4.symm.trans hi)
      have e6 : T[6]? = some (.pointer (some ⟨w.heap.size, 1, none⟩)) := zal (by omega) (hdep 3 _ 6 (odt (by kernel_rfl)) oq3 rfl)
      refine zah rfl ?_
      clear hdep hfree hsz hops fr oq0 oq1 oq2 oq3 oq4 oq5 oq6 oq7 oq8 oq9 oq10 oq11
      obtain ⟨c0, c1, c2⟩ := zad (RA.out.next hbw)
      refine zao fun K hK => ?_
      go_simp
      exact hK (.slice A r.num.length cA) _ (Below.refl _ _) (rfl)
    | 5, _, hi =>
      obtain rfl := Option.some.inj (oq5.symm.trans hi)
      have d5 : ∃ g, (T.getD 5 undef) = .slice (some ⟨g, 0, none⟩) 0 0 := hdep 2 _ 5 (odt (by kernel_rfl)) oq2 rfl
      obtain ⟨v5, e5, g5⟩ := zbu (T := T) (t := 5) (by omega)
      rw [g5] at d5
      clear g5
      have e7 : T[7]? = some (.slice A r.num.length cA) := zal (by omega) (hdep 4 _ 7 (odt (by kernel_rfl)) oq4 rfl)
      refine zah rfl ?_
      clear hdep hfree hsz hops fr oq0 oq1 oq2 oq3 oq4 oq5 oq6 oq7 oq8 oq9 oq10 oq11
      obtain ⟨g, rfl⟩ := d5
      refine zao fun K hK => ?_
      refine wp_fresh elN (.tmp 5) (.tmp 7) rfl (getD_some e5) (getD_some e7) (IsK.stb.next HN.out (zaa HB0.out hbw)) (by have := Hn.out; have := Hd.out; omega) fun v' w' hb hv => ?_
      exact hK v' w' hb (IsK.stb.le hv hbw.size)
    | 6, _, hi =>
      obtain rfl := Option.some.inj (oq6.symm.trans hi)
      refine zah rfl ?_
      clear hdep hfree hsz hops fr oq0 oq1 oq2 oq3 oq4 oq5 oq6 oq7 oq8 oq9 oq10 oq11
      refine zao fun K hK => ?_
      go_simp
      exact hK (.slice (some ⟨W.heap.size, 0, none⟩) 0 0) _ (zbp _ _) ⟨_, rfl⟩
    | 7, _, hi =>
      obtain rfl := Option.some.inj (oq7.symm.trans hi)
      have e1 : T[1]? = some (.pointer (some ⟨w.heap.size, 0, none⟩)) := hfree 1 (fr 1 (by kernel_rfl))
      refine zah rfl ?_
      clear hdep hfree hsz hops fr oq0 oq1 oq2 oq3 oq4 oq5 oq6 oq7 oq8 oq9 oq10 oq11
      refine zao fun K hK => ?_
      go_simp
      exact hK (.pointer (some ⟨w.heap.size, 2, none⟩)) _ (Below.refl _ _) (rfl)
    | 8, _, hi =>
      obtain rfl := Option.some.inj (oq8.symm.trans hi)
      have e10 : T[10]? = some (.pointer (some ⟨w.heap.size, 2, none⟩)) := zal (by omega) (hdep 7 _ 10 (odt (by kernel_rfl)) oq7 rfl)
      refine zah rfl ?_
      clear hdep hfree hsz hops fr oq0 oq1 oq2 oq3 oq4 oq5 oq6 oq7 oq8 oq9 oq10 oq11
      obtain ⟨c0, c1, c2⟩ := zad (RA.out.next hbw)
      refine zao fun K hK => ?_
      go_simp
      exact hK (.slice B r.den.length cB) _ (Below.refl _ _) (rfl)
    | 9, _, hi =>
      obtain rfl := Option.some.inj (oq9.symm.trans hi)
      have d9 : ∃ g, (T.getD 9 undef) = .slice (some ⟨g, 0, none⟩) 0 0 := hdep 6 _ 9 (odt (by kernel_rfl)) oq6 rfl
      obtain ⟨v9, e9, g9⟩ := zbu (T := T) (t := 9) (by omega)
      rw [g9] at d9
      clear g9
      have e11 : T[11]? = some (.slice B r.den.length cB) := zal (by omega) (hdep 8 _ 11 (odt (by kernel_rfl)) oq8 rfl)
      refine zah rfl ?_
      clear hdep hfree hsz hops fr oq0 oq1 oq2 oq3 oq4 oq5 oq6 oq7 oq8 oq9 oq10 oq11
      obtain ⟨g, rfl⟩ := d9
      refine zao fun K hK => ?_
      refine wp_fresh elN (.tmp 9) (.tmp 11) rfl (getD_some e9) (getD_some e11) (IsK.stb.next HD.out (zaa HB0.out hbw)) (by have := Hn.out; have := Hd.out; omega) fun v' w' hb hv => ?_
      exact hK v' w' hb (IsK.stb.le hv hbw.size)
    | 10, _, hi =>
      obtain rfl := Option.some.inj (oq10.symm.trans hi)
      have e4 : T[4]? = some (.bool r.neg) := zal (by omega) (hdep 1 _ 4 (odt (by kernel_rfl)) oq1 rfl)
      have d8 : IsK .u32 W (New w0.heap.size W) (T.getD 8 undef) r.num := hdep 5 _ 8 (odt (by kernel_rfl)) oq5 rfl
      obtain ⟨v8, e8, g8⟩ := zbu (T := T) (t := 8) (by omega)
      rw [g8] at d8
      clear g8
      have d12 : IsK .u32 W (New w0.heap.size W) (T.getD 12 undef) r.den := hdep 9 _ 12 (odt (by kernel_rfl)) oq9 rfl
      obtain ⟨v12, e12, g12⟩ := zbu (T := T) (t := 12) (by omega)
      rw [g12] at d12
      clear g12
      refine zah rfl ?_
      clear hdep hfree hsz hops fr oq0 oq1 oq2 oq3 oq4 oq5 oq6 oq7 oq8 oq9 oq10 oq11
      obtain ⟨A1, k1, rfl, h81, h82, h83⟩ := d8
      obtain ⟨A2, k2, rfl, h121, h122, h123⟩ := d12
      refine zao fun K hK => ?_
      go_simp
      exact hK (.agg #[.bool r.neg, .slice A1 r.num.length k1, .slice A2 r.den.length k2]) _ (Below.refl _ _) ⟨A1, k1, A2, k2, rfl, ⟨A1, k1, rfl, h81, h82, h83⟩, ⟨A2, k2, rfl, h121, h122, h123⟩⟩
    | _ + 11, hin, _ => exact absurd hin (by omega)
  case fin =>
    intro o ho a W hsz hdf hbw hfree hall
    obtain rfl := Option.some.inj (oq11.symm.trans ho)
    obtain ⟨⟨l⟩, df⟩ := a
    replace hsz : l.length = 14 := hsz
    obtain ⟨fs, rfl⟩ := open14 hsz
    obtain rfl : df = [] := hdf
    have bs1 : fs 1 = .pointer (some ⟨w.heap.size, 0, none⟩) := Option.some.inj (hfree 1 (fr 1 (by kernel_rfl)))
    have bs2 : fs 2 = .pointer (some ⟨w.heap.size + 1, 0, none⟩) := Option.some.inj (hfree 2 (fr 2 (by kernel_rfl)))
    have q13 : IsR W (New w0.heap.size W) (fs 13) r := hall 10 _ 13 (by omega) oq10 rfl
    clear hops fr oq0 oq1 oq2 oq3 oq4 oq5 oq6 oq7 oq8 oq9 oq10 oq11
    clear hall hfree hsz ho
    rw [bs1, bs2]
    clear bs1 bs2
    obtain ⟨t13, ht13⟩ : ∃ t, t = fs 13 := ⟨_, rfl⟩
    rw [← ht13] at q13 ⊢
    clear ht13
    have RZ' := Lib.hid (RZ.out.next hbw)
    obtain ⟨d0, d1, d2⟩ := zad RZ'.out
    obtain ⟨f0, f1, f2⟩ := zaq RZ'.out
    obtain ⟨A1, k1, A2, k2, rfl, h3, h4⟩ := q13
    have hz := Hz.out
    have hB := Lib.hid (zaa HB0.out hbw)
    have H3 := Lib.hid h3
    have H4 := Lib.hid h4
    clear h3 h4 hbw
    refine last_k fun K hK => ?_
    go_simp
    refine hK _ _ ?_
    clear hK K d0 d1 d2 f0 f1 f2
    go_wp2_with fail
    refine zbb Tryd.results78 rfl rfl (Row.put3 RZ'.out _ _ _) ?_
    have hsame : Same (New w0.heap.size W) (New w.heap.size (put3 W (w.heap.size + 1) (.bool r.neg) (.slice A1 r.num.length k1) (.slice A2 r.den.length k2))) W (put3 W (w.heap.size + 1) (.bool r.neg) (.slice A1 r.num.length k1) (.slice A2 r.den.length k2)) := zbz fun b hb => ⟨by have := hb.1; omega, ⟨by have := hb.1; omega, by rw [zcr]; exact hb.2⟩⟩
    exact ⟨⟨_, rfl, A1, k1, A2, k2, rfl, IsK.stb.to H3.out hsame, IsK.stb.to H4.out hsame⟩, zci hB.out (by omega) _ _ _⟩
set_option maxRecDepth 100000 in
set_option maxHeartbeats 2000000 in
theorem own_v0 {w : World} {v : Value} {l : List Raw} (h : IsV w (Old w) v l) (hs : ShortV l) (hl : l.length ≤ 1000) :
    Calls Tryd.prog 29 #[v] w fun e w' => (∃ v' S, e = .returned v' ∧ OwnS 3 50 IsR w' w.heap.size S v' l ∧ ∀ b, S b → w.heap.size ≤ b) ∧ Below w.heap.size w w' := by
  have H := Lib.hid h
  have Hs := Lib.hid hs
  obtain ⟨A, c, rfl, _⟩ := zcb h
  obtain ⟨n, hn⟩ : ∃ n, n = l.length := ⟨_, rfl⟩
  rw [← hn] at H hl ⊢
  have Hn := Lib.hid hn
  clear h hs hn
  go_enter Tryd.func29, Tryd.ntmps29
  go_wp2_with fail
  go_loopw [3, 4] (fun ov i wr => ∃ (j : Nat) (S : Nat → Prop), j ≤ n ∧ i = .int .i64 (j : Int) ∧ Below w.heap.size w wr ∧ Hid (OwnS 3 50 IsR wr w.heap.size S ov (l.take j)) ∧ Hid (∀ b, S b → w.heap.size ≤ b)) (fun _ i _ => n - (intOf i).toNat)
  case atStart => exact ⟨0, fun _ => False, Nat.zero_le _, rfl, Below.refl _ _, OwnS.nil (fun b hb => hb.elim), fun b hb => hb.elim⟩
  case round =>
    obtain ⟨j, S, hj, rfl, hbw, hrel, hS⟩ := hrel
    have Hbw := Lib.hid hbw
    have Own := Lib.hid hrel.out
    have HS := Lib.hid hS.out
    clear hrel hS
    rcases Nat.lt_or_ge j n with hlt | hge
    · obtain ⟨r, hr⟩ := zfn (l := l) (j := j) (by rw [← Hn.out]; exact hlt)
      obtain ⟨b1, o1, X1, X2, X3, X4, rfl, _, helb, c0, c1, c2⟩ := zcs (IsV.stb.to H.out (zax hbw)) hr
      have QD := Lib.hid helb
      have Hr := Lib.hid hr
      have Hsr := Lib.hid (Hs.out r (List.mem_of_getElem? hr))
      have cr := zbn
      have Hlt := Lib.hid hlt
      clear hr helb hbw
      go_wp2_with fail
      refine (own_r QD.out (by have := Hsr.out.1; omega) (by have := Hsr.out.2; omega)).mono ?_
      rintro e w5 ⟨⟨v5, rfl, hv⟩, hb5⟩
      obtain ⟨P, k, Q, m, rfl, _⟩ := id hv
      have Own5 := Lib.hid (OwnS.step IsR.stb (T := fun b => S b ∨ (wr.heap.size ≤ b ∧ b < w5.heap.size)) Own.out hb5 (fun b h => .inl h) (fun b h => h))
      have El : Hid (IsR w5 (fun b => S b ∨ (wr.heap.size ≤ b ∧ b < w5.heap.size)) (.agg #[.bool r.neg, .slice P r.num.length k, .slice Q r.den.length m]) r) := IsR.stb.to hv (zaz (S := New wr.heap.size w5) (T := fun b => S b ∨ (wr.heap.size ≤ b ∧ b < w5.heap.size)) fun b h => .inr h)
      have Hbw5 := Lib.hid (zaa Hbw.out hb5)
      have hbase : w.heap.size ≤ w5.heap.size := Hbw5.out.size
      clear c0 c1 c2 hv hb5
      go_wp2_with (at_builtin; refine zcx elR rfl _ _ rfl IsR.stb rfl rfl rfl Own5.out El.out rfl (by intro u hu; simp [Value.cells] at hu; rcases hu with rfl | rfl | rfl <;> rfl) (by have h1 := List.length_take_le j l; omega) hbase ?_; intro v7 w7 hown7 hb7 hz7)
      go_roundw
      case rel =>
        refine ⟨j + 1, fun b => S b ∨ (wr.heap.size ≤ b ∧ b < w5.heap.size), by have := Hlt.out; omega, by go_num, Hbw5.out.trans hb7, ?_, fun b hb => by rcases hb with hb | hb; exact HS.out b hb; exact Nat.le_trans Hbw.out.size hb.1⟩
        rw [Hid, zeu Hr.out]
        exact hown7
      case measure => have := Hlt.out; simp [intOf]; omega
    · obtain rfl : j = n := by omega
      have e : l.take j = l := List.take_of_length_le (by rw [← Hn.out]; exact Nat.le_refl _)
      clear hbw
      go_wp2_with fail
      go_ret
      have h1 := Own.out
      rw [e] at h1
      exact ⟨⟨_, S, rfl, h1, HS.out⟩, Hbw.out⟩
section
variable {P : Program} {ops : Array Oper} {Q : Exit → Act → World → Prop} {Φ : Nat → Value → World → Option Value → Prop} {U : World → Value → World → Prop} {k : Nat} {Pre : Nat → World → Prop} {J : World → Option Value → Prop} {E : Nat → World → World → Option Value → Prop} {a0 : Act} {w0 : World}
end
section
variable {α : Type} {R : World → (Nat → Prop) → Value → α → Prop} (hR : Stb R) {n0 : Nat} {w w' : World} {x : Option Value} {v : Value} {y : α}
include hR
end
section
variable {P : Program} {o : Oper} {a : Act} {w w0 : World} {Φ : Nat → Value → World → Option Value → Prop} {Q : Exit → Act → World → Prop} {n0 i k n : Nat} {x : Option Value}
end
def setAll (T0 : List Value) (fs : Nat → Value) : List Nat → List Value
  | [] => T0
  | t :: ws => (setAll T0 fs ws).set t (fs t)
theorem setAll_len (T0 : List Value) (fs : Nat → Value) (ws : List Nat) : (setAll T0 fs ws).length = T0.length := by
  induction ws with
  | nil => rfl
  | cons t ws ih => rw [setAll, List.length_set, ih]
theorem setAll_get (T0 : List Value) (fs : Nat → Value) (ws : List Nat) {i : Nat} (hi : i < T0.length) : (setAll T0 fs ws)[i]? = if i ∈ ws then some (fs i) else T0[i]? := by
  induction ws with
  | nil => simp [setAll]
  | cons t ws ih =>
    rw [setAll, List.getElem?_set]
    by_cases e : t = i
    · subst e
      rw [if_pos rfl, if_pos (by rw [setAll_len]; exact hi), if_pos (by simp)]
    · rw [if_neg e, ih]
      have : i ∈ t :: ws ↔ i ∈ ws := by simp [Ne.symm e]
      simp only [this]
theorem frame_of {l T0 : List Value} {p : Nat → Bool} (ws : List Nat) (hw : ∀ t, t ∉ ws → p t = false) (hsz : l.length = T0.length) (h : ∀ t, p t = false → (Array.mk l)[t]? = (Array.mk T0)[t]?) : ∃ fs : Nat → Value, l = setAll T0 fs ws := by
  refine ⟨fun t => l.getD t undef, List.ext_getElem? fun i => ?_⟩
  rcases Nat.lt_or_ge i T0.length with hi | hi
  · rw [setAll_get _ _ _ hi]
    by_cases hm : i ∈ ws
    · rw [if_pos hm, List.getD_eq_getElem?_getD, List.getElem?_eq_getElem (by omega)]
      rfl
    · rw [if_neg hm]
      have := h i (hw i hm)
      simpa using this
  · rw [List.getElem?_eq_none (by omega), List.getElem?_eq_none (by rw [setAll_len]; exact hi)]
def dstsIn (ops : Array Oper) (ws : List Nat) : Bool := ops.toList.all fun o => match o.dst with | none => true | some d => ws.contains d
theorem dst_in {ops : Array Oper} {ws : List Nat} (h : dstsIn ops ws = true) {i t : Nat} {o : Oper} (ho : ops[i]? = some o) (hd : (o.dst == some t) = true) : t ∈ ws := by
  have hm : o ∈ ops.toList := by
    have := Array.getElem?_eq_some_iff.1 ho
    obtain ⟨h1, h2⟩ := this
    rw [← h2]
    simp
  have h1 := List.all_eq_true.1 h o hm
  have h2 : o.dst = some t := by simpa using hd
  rw [h2] at h1
  simpa using h1
theorem slotN_in {ops : Array Oper} {n : Nat} {ws : List Nat} (h : dstsIn ops ws = true) : ∀ t, t ∉ ws → slotN ops n t = false := fun t ht => by
  rcases Bool.eq_false_or_eq_true (slotN ops n t) with e | e
  · unfold slotN at e
    obtain ⟨i, _, h2⟩ := List.any_eq_true.1 e
    cases h3 : ops[i]? with
    | none => rw [h3] at h2; cases h2
    | some o => rw [h3] at h2; exact absurd (dst_in h h3 h2) ht
  · exact e
end Go.Proofs.YtblpaocignlpkaaDoor
