/-
  Lists of ints in memory, and those that came in.
-/
import Derived.Test.YtijjjbgnpfjpmaaGreatDoorCoh01
import Derived.Test.YtijjjbgnpfjpmaaGreatDoorCoh04
import Derived.Test.YtijjjbgnpfjpmaaGreatDoorCoh02
import Derived.WalkKit
import Derived.Test.YtijjjbgnpfjpmaaGreatDoorChecked
import Derived.Lib.Mul64
import Derived.Laws.Bits64b
import Derived.Laws.Externs
import Derived.Shelf.Spec.BitsCarry
import Derived.IntWalk
namespace Go.Proofs.YtijjjbgnpfjpmaaGreatDoor
open Go.RowKit Go.WideShapes Go.ChangeShapes Go.Deep
set_option linter.unusedVariables false
def In64 (n : Int) : Prop := -9223372036854775808 ≤ n ∧ n ≤ 9223372036854775807
theorem in64_of {n : Int} (h : (Lit.int .i64 n).wf = true) : In64 n := by
  rw [Lit.wf, Bool.and_eq_true, decide_eq_true_eq, decide_eq_true_eq] at h
  exact h
def IsIL (w : World) (S : Nat → Prop) (v : Value) (l : List Int) : Prop :=
  ∃ A c, v = .slice A l.length c ∧ l.length ≤ c ∧ c ≤ maxLen ∧ SVS w S A (l.map fun x => .int .i64 x) ∧ ∀ x ∈ l, In64 x
theorem IsIL.stb : Stb IsIL := by
  rintro w w' S T v l ⟨A, c, hv, h1, h2, h3, h4⟩ hs
  exact ⟨A, c, hv, h1, h2, h3.same hs, h4⟩
theorem isIL_get {w : World} {S : Nat → Prop} {A : Option Addr} {n c : Nat} {l : List Int} (h : IsIL w S (.slice A n c) l) {j : Nat} {x : Int} (hj : l[j]? = some x) :
    In64 x ∧ ∃ b off, A = some ⟨b, off, none⟩ ∧ S b ∧ w.cell? ⟨b, off + j, none⟩ = some (.int .i64 x) := by
  obtain ⟨A', c', hv, h1, h2, h3, h4⟩ := h
  simp only [Value.slice.injEq] at hv
  obtain ⟨rfl, rfl, rfl⟩ := hv
  have hlt := (List.getElem?_eq_some_iff.1 hj).1
  obtain ⟨b, off, hA, hb, hc⟩ := h3 (fun e => by have := congrArg List.length e; simp at this; rw [this] at hlt; simp at hlt)
  exact ⟨h4 x (List.mem_of_getElem? hj), b, off, hA, hb, hc j _ (by rw [List.getElem?_map, hj]; rfl)⟩
section
variable {H : Type} {enc : TypeId × Value → H} {w : World} {base base0 : Nat} {sp : Nat → Bool} {held : Bool}
set_option maxRecDepth 100000 in
theorem zfg {v : Value} {d : DataW H} {ps : List MemPlace} (hlt : ∀ x ∈ ps, x.block < w.heap.size) (hval : Value.okWide Tryz.prog w .any base0 22 v) (h : DataW.Trod enc Tryz.prog w base sp held 22 v d ps) : ∃ l : List Int, IsIL w (Old w) v l := by
  obtain ⟨a, len, cap, rfl⟩ := okWide_slice Tryz.underlying22 hval
  obtain ⟨fuel, hf⟩ := h
  rcases open_ints Tryz.underlying22 Tryz.underlying3 kr hf with ⟨hv, _⟩ | ⟨a, len, cap, zs, hv, _, hl, hm, hz, hx, hcell, hwz⟩
  · simp only [Value.cells, List.cons.injEq, and_true] at hv
    rw [hv]
    exact ⟨[], none, 0, rfl, Nat.le_refl _, Nat.zero_le _, SVS.nil, fun x hx => by cases hx⟩
  · simp only [Value.cells, List.cons.injEq, and_true] at hv
    rw [hv]
    have hlz : len ≤ zs.length := by rw [hz]; split <;> omega
    have hlen : (zs.take len).length = len := by simp; omega
    refine ⟨zs.take len, some a, cap, by rw [hlen], by rw [hlen]; exact hl, hm, fun hne => ?_, fun x hx => in64_of (hwz x (List.mem_of_mem_take hx))⟩
    have hpos : 0 < zs.length := by
      rcases Nat.eq_zero_or_pos zs.length with h0 | h0
      · exact absurd (by rw [List.length_eq_zero_iff.1 h0]; simp) hne
      · exact h0
    obtain ⟨b, off, rfl, hcc⟩ := ints_at hcell hpos
    refine ⟨b, off, rfl, World.block_lt_of_cell? w _ (hcc 0 hpos), fun j u hu => ?_⟩
    rw [List.getElem?_map, List.getElem?_take] at hu
    split at hu
    case isFalse => simp at hu
    case isTrue hj =>
      have hjz : j < zs.length := og
      rw [List.getElem?_eq_getElem hjz] at hu
      simp only [Option.map_some, Option.some.injEq] at hu
      subst hu
      rw [hcc j hjz, List.getD_eq_getElem?_getD, List.getElem?_eq_getElem hjz, Option.getD_some]
end
end Go.Proofs.YtijjjbgnpfjpmaaGreatDoor
namespace Go.Proofs.YtijjjbgnpfjpmaaGreatDoor
open Go.RowKit
set_option linter.unusedVariables false
def IsNs (w : World) (v : Value) (l : List Nat) : Prop := IsL .i64 w 0 w.heap.size v l
theorem IsNs.next {w w' : World} {v : Value} {l : List Nat} (h : IsNs w v l) (hb : Below w.heap.size w w') : IsNs w' v l := (IsL.below h hb (Nat.le_refl _)).wide (Nat.le_refl _) hb.size
theorem IsNs.hd {w : World} {v : Value} {l : List Nat} (h : IsNs w v l) : ∃ A c, v = .slice A l.length c ∧ l.length ≤ c ∧ c ≤ maxLen := by
  obtain ⟨A, c, hv, h1, h2, _⟩ := h
  exact ⟨A, c, hv, h1, h2⟩
theorem IsNs.at {w : World} {A : Option Addr} {m c : Nat} {l : List Nat} (h : IsNs w (.slice A m c) l) {k x : Nat} (hk : l[k]? = some x) : ∃ b o, A = some ⟨b, o, none⟩ ∧ b < w.heap.size ∧ w.cell? ⟨b, o + k, none⟩ = some (.int .i64 (x : Int)) := by
  obtain ⟨A', c', hv, _, _, hs⟩ := h
  simp only [Value.slice.injEq] at hv
  obtain ⟨rfl, rfl, rfl⟩ := hv
  have hlt := (List.getElem?_eq_some_iff.1 hk).1
  obtain ⟨b, o, hA, _, hb, hc⟩ := hs (zap (j := k) hlt)
  refine ⟨b, o, hA, hb, hc k _ ?_⟩
  rw [cel_getElem?, hk]
  rfl
theorem IsNs.take {w : World} {A : Option Addr} {m c : Nat} {l : List Nat} (h : IsNs w (.slice A m c) l) (k : Nat) (hk : k ≤ l.length) : IsNs w (.slice A k c) (l.take k) := by
  obtain ⟨A', c', hv, h1, h2, hs⟩ := h
  simp only [Value.slice.injEq] at hv
  obtain ⟨rfl, rfl, rfl⟩ := hv
  refine ⟨A, c, by rw [List.length_take, Nat.min_eq_left hk], by rw [List.length_take]; omega, h2, ?_⟩
  rw [zeg]
  exact hs.take k
def prd (l : List Nat) : Nat := l.foldl (· * ·) 1
theorem prd_nil : prd [] = 1 := rfl
theorem prd_succ {l : List Nat} {k x : Nat} (h : l[k]? = some x) : prd (l.take (k + 1)) = prd (l.take k) * x := by
  have hk : k < l.length := (List.getElem?_eq_some_iff.1 h).1
  have he : l[k] = x := (List.getElem?_eq_some_iff.1 h).2
  unfold prd
  rw [List.take_succ_eq_append_getElem hk, List.foldl_append, he]
  rfl
theorem prd_pos {l : List Nat} (h : ∀ x ∈ l, 1 ≤ x) (k : Nat) : 1 ≤ prd (l.take k) := by
  induction k with
  | zero => exact Nat.le_refl _
  | succ k ih =>
    by_cases hk : k < l.length
    · rw [prd_succ (List.getElem?_eq_getElem hk)]
      have := h _ (List.getElem_mem hk)
      exact Nat.mul_pos (by omega) (by omega)
    · rw [List.take_of_length_le (by omega)] at ih ⊢
      exact ih
theorem prd_le {l : List Nat} (h : ∀ x ∈ l, 1 ≤ x) (k : Nat) : prd (l.take k) ≤ prd l := by
  have key : ∀ n, k ≤ n → prd (l.take k) ≤ prd (l.take n) := by
    intro n hn
    induction n with
    | zero => obtain rfl : k = 0 := by omega
              exact Nat.le_refl _
    | succ n ih =>
      rcases Nat.eq_or_lt_of_le hn with h1 | h1
      · rw [h1]; exact Nat.le_refl _
      · refine Nat.le_trans (ih (by omega)) ?_
        by_cases hk : n < l.length
        · rw [prd_succ (List.getElem?_eq_getElem hk)]
          have := h _ (List.getElem_mem hk)
          exact Nat.le_mul_of_pos_right _ (by omega)
        · rw [List.take_of_length_le (by omega), List.take_of_length_le (by omega)]; exact Nat.le_refl _
  have h2 := key (max k l.length) (Nat.le_max_left _ _)
  rwa [List.take_of_length_le (i := max k l.length) (Nat.le_max_right _ _)] at h2
set_option maxHeartbeats 400000 in
theorem prod1_n (w : World) (a b : Nat) (x y z : Int) (hx : x = a) (hy : y = b) (ha : 1 ≤ a) (hab : a * b ≤ 1000) (ha1 : a ≤ 1000) (hb1 : b ≤ 1000) (hz : z = ((a * b : Nat) : Int)) :
    Calls Tryz.prog 231 #[.int .i64 x, .int .i64 y] w fun e w' => e = .returned (.int .i64 z) ∧ w = w' := by
  have h1 : b ≤ 1000 / a := by rw [Nat.le_div_iff_mul_le ha, Nat.mul_comm]; exact hab
  have h2 : y ≤ 1000 / x := by
    rw [hx, hy]
    have h9 := Int.ofNat_le.2 h1
    rw [Int.natCast_ediv] at h9
    exact h9
  have h3 : 1 ≤ x := by omega
  have h4 : 0 ≤ y := by omega
  have h5 : wrap64 z = z := by unfold wrap64; omega
  have h6 : x ≤ 1000 := by omega
  have h7 : y ≤ 1000 := by omega
  have h8 : x * y = z := by rw [hx, hy, hz, Int.natCast_mul]
  have H5 := Lib.hid h5
  have H8 := Lib.hid h8
  clear h1 hx hy hz h5 h8 hab
  go_enter Tryz.func231, Tryz.ntmps231
  go_wp2
  go_ret
  exact ⟨zae (by rw [H8.out]; exact H5.out), rfl⟩
set_option maxHeartbeats 400000 in
theorem fold_n {w : World} {v : Value} {l : List Nat} (h : IsNs w v l) (h1 : ∀ x ∈ l, 1 ≤ x) (hp : prd l ≤ 1000) (z : Int) (hz : z = (prd l : Nat)) :
    Calls Tryz.prog 230 #[v, .int .i64 1, .func (.func 231) #[] #[]] w fun e w' => e = .returned (.int .i64 z) ∧ w = w' := by
  obtain ⟨A, c, rfl, hc, hcm⟩ := h.hd
  have H := Lib.hid h
  have H1 := Lib.hid h1
  have HP := Lib.hid hp
  have HZ := Lib.hid hz
  unfold maxLen at hcm
  clear h h1 hp hz
  go_enter Tryz.func230, Tryz.ntmps230
  go_wp2_with fail
  go_loop [1, 11] (fun a i => ∃ (k : Nat) (p : Int), k ≤ l.length ∧ i = .int .i64 (k : Int) ∧ a = .int .i64 p ∧ Hid (p = (prd (l.take k) : Nat))) (fun _ i => l.length - (intOf i).toNat)
  case atStart => exact ⟨0, 1, Nat.zero_le _, rfl, rfl, rfl⟩
  case round =>
    obtain ⟨k, p, hk, rfl, rfl, hr⟩ := hrel
    rcases Nat.lt_or_ge k l.length with hlt | hge
    · have hx := List.getElem?_eq_getElem hlt
      obtain ⟨x, hxe⟩ : ∃ x, x = l[k] := ⟨_, rfl⟩
      rw [← hxe] at hx
      obtain ⟨b, o, rfl, _, hcell⟩ := H.out.at hx
      have hs := Lib.hid (prd_succ hx)
      have hm : x ∈ l := List.mem_of_getElem? hx
      have hb1 := prd_pos H1.out k
      have hb2 := Nat.le_trans (prd_le H1.out k) HP.out
      have hb3 := Nat.le_trans (prd_le H1.out (k + 1)) HP.out
      rw [hs.out] at hb3
      have hx1 : x ≤ 1000 := Nat.le_trans (Nat.le_mul_of_pos_left x (by omega)) hb3
      have hc1 := Lib.hid (prod1_n w _ x p x _ hr.out rfl hb1 hb3 hb2 hx1 rfl)
      clear hb1 hb2 hb3 hx1 hm hx hxe
      go_wp2_with fail
      refine hc1.out.mono ?_
      rintro e w1 ⟨rfl, rfl⟩
      go_wp2_with fail
      go_round
      case rel => exact ⟨k + 1, _, by omega, by go_num, rfl, by rw [hs.out]; rfl⟩
      case measure => simp [intOf]; omega
    · obtain rfl : k = l.length := og
      go_wp2_with fail
      go_ret
      exact ⟨zae (by rw [hr.out, HZ.out, List.take_length]), rfl⟩
theorem product_nn {w : World} {v : Value} {l : List Nat} (h : IsNs w v l) (h1 : ∀ x ∈ l, 1 ≤ x) (hp : prd l ≤ 1000) (z : Int) (hz : z = (prd l : Nat)) :
    Calls Tryz.prog 203 #[v] w fun e w' => e = .returned (.int .i64 z) ∧ w = w' := by
  have hc := Lib.hid (fold_n h h1 hp z hz)
  obtain ⟨A, c, rfl, _, _⟩ := h.hd
  clear h h1 hp hz
  go_enter Tryz.func203, Tryz.ntmps203
  go_wp2_with fail
  refine hc.out.mono ?_
  rintro e w1 ⟨rfl, rfl⟩
  go_wp2_with fail
  go_ret
  exact ⟨rfl, rfl⟩
set_option maxHeartbeats 1000000 in
theorem sizes_ok {w : World} {v : Value} {l : List Nat} (h : IsNs w v l) (h1 : ∀ x ∈ l, 1 ≤ x) (hp : prd l ≤ 1000) (hl1 : 1 ≤ l.length) (hl2 : l.length ≤ 4) :
    Calls Tryz.prog 202 #[v] w fun e w' => e = .returned (.int .i64 0) ∧ w = w' := by
  obtain ⟨A, c, rfl, hc, hcm⟩ := h.hd
  have H := Lib.hid h
  have H1 := Lib.hid h1
  have HP := Lib.hid hp
  clear h h1 hp
  go_enter Tryz.func202, Tryz.ntmps202
  go_wp2_with fail
  go_loop [15] (fun i => ∃ k : Nat, k ≤ l.length ∧ i = .int .i64 (k : Int)) (fun i => l.length - (intOf i).toNat)
  case atStart => exact ⟨0, Nat.zero_le _, rfl⟩
  case round =>
    obtain ⟨k, hk, rfl⟩ := hrel
    rcases Nat.lt_or_ge k l.length with hlt | hge
    · have hx := List.getElem?_eq_getElem hlt
      obtain ⟨x, hxe⟩ : ∃ x, x = l[k] := ⟨_, rfl⟩
      rw [← hxe] at hx
      obtain ⟨b, o, rfl, _, hcell⟩ := H.out.at hx
      have hx1 : ¬ (x : Int) < 1 := by have := H1.out x (List.mem_of_getElem? hx); omega
      have hpt := Nat.le_trans (prd_le H1.out (k + 1)) HP.out
      have hc1 := Lib.hid (product_nn (H.out.take (k + 1) hlt) (fun x hx => H1.out x (List.mem_of_mem_take hx)) hpt _ rfl)
      obtain ⟨p, hpe⟩ : ∃ p, p = prd (l.take (k + 1)) := ⟨_, rfl⟩
      rw [← hpe] at hc1 hpt
      clear hx hxe hpe
      go_wp2_with fail
      refine hc1.out.mono ?_
      rintro e w1 ⟨rfl, rfl⟩
      go_wp2_with fail
      go_round
      case rel => exact ⟨k + 1, by omega, by go_num⟩
      case measure => simp [intOf]; omega
    · obtain rfl : k = l.length := og
      go_wp2_with fail
      go_ret
      exact ⟨rfl, rfl⟩
end Go.Proofs.YtijjjbgnpfjpmaaGreatDoor
namespace Go.Proofs.YtijjjbgnpfjpmaaGreatDoor
def vw : List Nat → Nat
  | [] => 0
  | x :: l => x + 18446744073709551616 * vw l
def wd (n : Nat) : List Nat := if n = 0 then [] else n % 18446744073709551616 :: wd (n / 18446744073709551616)
termination_by n
decreasing_by omega
def Lw (l : List Nat) : Prop := ∀ x ∈ l, x < 18446744073709551616
def pq (k : Nat) : Nat := 18446744073709551616 ^ k
theorem pq_zero : pq 0 = 1 := rfl
theorem pq_one : pq 1 = 18446744073709551616 := by simp [pq]
theorem pq_succ (k : Nat) : pq (k + 1) = 18446744073709551616 * pq k := by simp [pq, Nat.pow_succ, Nat.mul_comm]
theorem pq_pos (k : Nat) : 0 < pq k := Nat.pow_pos og
theorem pq_add (a b : Nat) : pq (a + b) = pq a * pq b := by simp [pq, Nat.pow_add]
theorem zcd : wd 0 = [] := by rw [wd]; simp
theorem wd_pos {n : Nat} (h : n ≠ 0) : wd n = n % 18446744073709551616 :: wd (n / 18446744073709551616) := by rw [wd]; simp [h]
theorem zfo (a b : List Nat) : vw (a ++ b) = vw a + pq a.length * vw b := by
  induction a with
  | nil => simp [vw, pq]
  | cons x a ih =>
    simp only [List.cons_append, vw, ih, List.length_cons, pq_succ]
    grind
theorem zew (n : Nat) : vw (wd n) = n := by
  induction n using Nat.strongRecOn with
  | _ n ih =>
    by_cases h : n = 0
    · subst h; simp [zcd, vw]
    · rw [wd_pos h, vw, ih _ og]; omega
theorem lw_nil : Lw [] := by intro x hx; cases hx
theorem lw_cons {x : Nat} {l : List Nat} : Lw (x :: l) ↔ x < 18446744073709551616 ∧ Lw l := by simp [Lw]
theorem lw_take {l : List Nat} (h : Lw l) (k : Nat) : Lw (l.take k) := fun x hx => h x (List.mem_of_mem_take hx)
theorem lw_getD {l : List Nat} (h : Lw l) (k : Nat) : l.getD k 0 < 18446744073709551616 := by
  rw [List.getD_eq_getElem?_getD]
  by_cases hk : k < l.length
  · rw [List.getElem?_eq_getElem hk]; exact h _ (List.getElem_mem hk)
  · rw [List.getElem?_eq_none og]; simp
theorem lw_wd (n : Nat) : Lw (wd n) := by
  induction n using Nat.strongRecOn with
  | _ n ih =>
    by_cases h : n = 0
    · subst h; rw [zcd]; exact lw_nil
    · rw [wd_pos h, lw_cons]; exact ⟨Nat.mod_lt _ og, ih _ og⟩
theorem wd_vw_of {l : List Nat} (h : Lw l) (hl : l.getLastD 1 ≠ 0) : wd (vw l) = l := by
  induction l with
  | nil => simp [vw, zcd]
  | cons x l ih =>
    rw [lw_cons] at h
    have hv : vw (x :: l) ≠ 0 := by
      intro e
      simp only [vw] at e
      have hx : x = 0 := og
      have hz : vw l = 0 := og
      cases l with
      | nil => simp [hx] at hl
      | cons y l' =>
        have := ih h.2 (by simpa using hl)
        rw [hz, zcd] at this
        cases this
    rw [wd_pos hv]
    simp only [vw]
    have h1 : (x + 18446744073709551616 * vw l) % 18446744073709551616 = x := og
    have h2 : (x + 18446744073709551616 * vw l) / 18446744073709551616 = vw l := og
    rw [h1, h2]
    congr 1
    apply ih h.2
    cases l with
    | nil => simp
    | cons y l' => simpa using hl
theorem vw_lt {l : List Nat} (h : Lw l) : vw l < pq l.length := by
  induction l with
  | nil => simp [vw, pq]
  | cons x l ih =>
    rw [lw_cons] at h
    have := ih h.2
    simp only [vw, List.length_cons, pq_succ]
    omega
theorem wd_len_le {n k : Nat} : (wd n).length ≤ k ↔ n < pq k := by
  induction k generalizing n with
  | zero =>
    by_cases h : n = 0
    · subst h; simp [zcd, pq]
    · rw [wd_pos h]; simp [pq]; omega
  | succ k ih =>
    by_cases h : n = 0
    · subst h; simp [zcd, pq_pos]
    · rw [wd_pos h, List.length_cons, pq_succ]
      have := ih (n := n / 18446744073709551616)
      constructor
      · intro hk
        have := this.1 og
        omega
      · intro hk
        have := this.2 og
        omega
theorem wd_lt (n : Nat) : n < pq (wd n).length := wd_len_le.1 (Nat.le_refl _)
theorem wd_len_mono {a b : Nat} (h : a ≤ b) : (wd a).length ≤ (wd b).length := wd_len_le.2 (Nat.lt_of_le_of_lt h (wd_lt b))
theorem wd_nil_iff {n : Nat} : (wd n).length = 0 ↔ n = 0 := by
  have := wd_len_le (n := n) (k := 0)
  simp only [pq_zero] at this
  omega
theorem wd_inj {a b : Nat} (h : wd a = wd b) : a = b := by rw [← zew a, ← zew b, h]
theorem vw_zeros {l : List Nat} (h : ∀ x ∈ l, x = 0) : vw l = 0 := by
  induction l with
  | nil => rfl
  | cons x l ih =>
    simp only [vw]
    have h1 := h x (by simp)
    have h2 := ih (fun y hy => h y (by simp [hy]))
    omega
theorem vw_take_of_zeros {l : List Nat} {m : Nat} (h : ∀ j, m ≤ j → j < l.length → l.getD j 0 = 0) : vw (l.take m) = vw l := by
  have e : vw l = vw (l.take m ++ l.drop m) := by rw [List.take_append_drop]
  rw [e, zfo, vw_zeros (l := l.drop m), Nat.mul_zero, Nat.add_zero]
  intro x hx
  obtain ⟨j, hj, rfl⟩ := List.getElem_of_mem hx
  rw [List.getElem_drop]
  have := h (m + j) og (by simp at hj; omega)
  rw [List.getD_eq_getElem?_getD, List.getElem?_eq_getElem (by simp at hj; omega)] at this
  simpa using this
theorem trimw_to {l : List Nat} {m : Nat} (hl : Lw l) (hm : m ≤ l.length) (h : ∀ j, m ≤ j → j < l.length → l.getD j 0 = 0) (hlast : m = 0 ∨ l.getD (m - 1) 0 ≠ 0) :
    wd (vw l) = l.take m := by
  rw [← vw_take_of_zeros h]
  apply wd_vw_of (lw_take hl m)
  rcases hlast with rfl | hne
  · simp
  · by_cases h0 : m = 0
    · subst h0; simp
    · rw [List.getLastD_eq_getLast?, List.getLast?_eq_getElem?, List.length_take, Nat.min_eq_left hm, List.getElem?_take, if_pos og]
      rw [List.getD_eq_getElem?_getD] at hne
      cases hx : l[m - 1]? with
      | none => rw [List.getElem?_eq_none_iff] at hx; omega
      | some x => rw [hx] at hne; simpa using hne
theorem zeo {n : Nat} (h : n < 18446744073709551616) (h0 : n ≠ 0) : wd n = [n] := by
  rw [wd_pos h0, Nat.div_eq_of_lt h, zcd, Nat.mod_eq_of_lt h]
theorem vw_take_succ {l : List Nat} {k : Nat} (h : k < l.length) : vw (l.take (k + 1)) = vw (l.take k) + pq k * l.getD k 0 := by
  rw [List.take_succ_eq_append_getElem h, zfo, List.length_take, Nat.min_eq_left (Nat.le_of_lt h), List.getD_eq_getElem?_getD, List.getElem?_eq_getElem h]
  simp [vw]
theorem vw_drop {l : List Nat} {k : Nat} (h : k < l.length) : vw (l.drop k) = l.getD k 0 + 18446744073709551616 * vw (l.drop (k + 1)) := by
  rw [List.drop_eq_getElem_cons h, vw, List.getD_eq_getElem?_getD, List.getElem?_eq_getElem h]
  rfl
theorem vw_split (l : List Nat) (k : Nat) (h : k ≤ l.length) : vw l = vw (l.take k) + pq k * vw (l.drop k) := by
  have e : vw l = vw (l.take k ++ l.drop k) := by rw [List.take_append_drop]
  rw [e, zfo, List.length_take, Nat.min_eq_left h]
theorem wd_len_of_lt {x y : Nat} (h : (wd x).length < (wd y).length) : x < y := by
  rcases Nat.lt_or_ge x y with h1 | h1
  · exact h1
  · have := wd_len_mono h1; omega
theorem vw_lt_at {a b : List Nat} {k : Nat} (ha : Lw a) (_hb : Lw b) (hl : a.length = b.length) (hk : k < a.length) (hd : a.drop (k + 1) = b.drop (k + 1)) (h : a.getD k 0 < b.getD k 0) : vw a < vw b := by
  rw [vw_split a k og, vw_split b k og, vw_drop hk, vw_drop (l := b) (k := k) og, hd]
  have h1 := vw_lt (lw_take ha k)
  rw [List.length_take, Nat.min_eq_left og] at h1
  have h2 : a.getD k 0 + 18446744073709551616 * vw (b.drop (k + 1)) + 1 ≤ b.getD k 0 + 18446744073709551616 * vw (b.drop (k + 1)) := og
  have h3 := Nat.mul_le_mul_left (pq k) h2
  rw [Nat.mul_add (pq k) _ 1, Nat.mul_one] at h3
  omega
theorem zcu {l : List Nat} {k x : Nat} (h : k < l.length) : vw ((l.set k x).take (k + 1)) = vw (l.take k) + pq k * x := by
  rw [zfl h, zfo, List.length_take, Nat.min_eq_left (Nat.le_of_lt h)]
  simp [vw]
theorem vw_take_succ' (l : List Nat) (k : Nat) : vw (l.take (k + 1)) = vw (l.take k) + pq k * l.getD k 0 := by
  by_cases h : k < l.length
  · exact vw_take_succ h
  · rw [List.take_of_length_le og, List.take_of_length_le og, List.getD_eq_getElem?_getD, List.getElem?_eq_none og]
    simp
theorem zay {l : List Nat} {k : Nat} (h : l.length ≤ k) : vw (l.take k) = vw l := by rw [List.take_of_length_le h]
theorem vw_nil_take (l : List Nat) : vw (l.take 0) = 0 := by simp [vw]
theorem sub_relW {a b L : List Nat} {k : Nat} {x y bw bw' r : Int} (hk : k < L.length) (hx : x = (a.getD k 0 : Nat)) (hy : y = (b.getD k 0 : Nat)) (hr : r = x - y - bw + 18446744073709551616 * bw') (hr0 : 0 ≤ r)
    (h : (vw (L.take k) : Int) = vw (a.take k) - vw (b.take k) + bw * pq k) :
    (vw ((L.set k r.toNat).take (k + 1)) : Int) = vw (a.take (k + 1)) - vw (b.take (k + 1)) + bw' * pq (k + 1) := by
  rw [zcu hk, vw_take_succ' a, vw_take_succ' b, pq_succ]
  have e : ((r.toNat : Nat) : Int) = r := Int.toNat_of_nonneg hr0
  simp only [Int.natCast_add, Int.natCast_mul, e, h, ← hx, ← hy]
  rw [hr]
  grind
theorem sub_endW {a b L : List Nat} {n : Nat} {bw : Int} (hL : L.length = n) (ha : a.length = n) (hb : b.length ≤ n) (hLo : Lw L) (hbw : bw = 0 ∨ bw = 1) (hle : vw b ≤ vw a)
    (h : (vw (L.take n) : Int) = vw (a.take n) - vw (b.take n) + bw * pq n) : vw L = vw a - vw b := by
  rw [zay og, zay og, zay hb] at h
  have h1 := vw_lt hLo
  rw [hL] at h1
  rcases hbw with rfl | rfl <;> omega
theorem vw_set {l : List Nat} {k x : Nat} (h : k < l.length) : vw (l.set k x) + pq k * l.getD k 0 = vw l + pq k * x := by
  have e1 := vw_split (l.set k x) (k + 1) (by simp; omega)
  have e2 := vw_split l (k + 1) h
  rw [zcu h, List.drop_set_of_lt og] at e1
  rw [vw_take_succ h] at e2
  omega
theorem mul_ringW {V V0 Vn P Q x y z c t c' r T : Int} (ht : t = x * y + z + c) (hr : r = t - c' * 18446744073709551616) (e2 : Vn + P * Q * z = V + P * Q * r) (h : V + c * (P * Q) = V0 + x * P * T) :
    Vn + c' * (18446744073709551616 * (P * Q)) = V0 + x * P * (T + Q * y) := by
  subst ht
  subst hr
  grind
theorem mul_stepW {L0 L b : List Nat} {i j : Nat} {x y z c t c' r : Int} (hk : i + j < L.length) (hy : y = (b.getD j 0 : Nat)) (hz : z = (L.getD (i + j) 0 : Nat)) (ht : t = x * y + z + c) (hr : r = t - c' * 18446744073709551616) (hr0 : 0 ≤ r)
    (h : (vw L : Int) + c * pq (i + j) = vw L0 + x * pq i * vw (b.take j)) :
    (vw (L.set (i + j) r.toNat) : Int) + c' * pq (i + (j + 1)) = vw L0 + x * pq i * vw (b.take (j + 1)) := by
  have e := vw_set (x := r.toNat) hk
  have e2 : (vw (L.set (i + j) r.toNat) : Int) + pq (i + j) * z = vw L + pq (i + j) * r := by
    have h3 : ((r.toNat : Nat) : Int) = r := Int.toNat_of_nonneg hr0
    rw [hz]
    have := congrArg (fun n : Nat => (n : Int)) e
    simp only [Int.natCast_add, Int.natCast_mul, h3] at this
    exact this
  rw [vw_take_succ' b, ← Nat.add_assoc, pq_succ]
  have e3 : (pq (i + j) : Int) = pq i * pq j := by rw [pq_add]; simp
  rw [e3] at e2 h
  simp only [Int.natCast_add, Int.natCast_mul, ← hy, e3]
  exact mul_ringW ht hr e2 h
theorem mul_rowW {L0 L a b : List Nat} {i m : Nat} {x c : Int} (hm : b.length = m) (hk : i + m < L.length) (hx : x = (a.getD i 0 : Nat)) (hz : L.getD (i + m) 0 = 0) (hc0 : 0 ≤ c)
    (h0 : vw L0 = vw (a.take i) * vw b) (h : (vw L : Int) + c * pq (i + m) = vw L0 + x * pq i * vw (b.take m)) :
    vw (L.set (i + m) c.toNat) = vw (a.take (i + 1)) * vw b := by
  have e := vw_set (x := c.toNat) hk
  rw [hz, Nat.mul_zero, Nat.add_zero] at e
  rw [zay (Nat.le_of_eq hm)] at h
  rw [vw_take_succ' a]
  have h3 : ((c.toNat : Nat) : Int) = c := Int.toNat_of_nonneg hc0
  have e2 := congrArg (fun n : Nat => (n : Int)) e
  have e4 := congrArg (fun n : Nat => (n : Int)) h0
  simp only [Int.natCast_add, Int.natCast_mul, h3] at e2 e4
  apply Int.ofNat_inj.1
  simp only [Int.natCast_add, Int.natCast_mul, ← hx]
  grind
theorem drop_setW {l : List Nat} {k x : Nat} (h : k < l.length) : vw ((l.set k x).drop k) = x + 18446744073709551616 * vw (l.drop (k + 1)) := by
  rw [vw_drop (by simpa using h), getD_set_eqW h, List.drop_set_of_lt og]
where
  getD_set_eqW {l : List Nat} {i x : Nat} (h : i < l.length) : (l.set i x).getD i 0 = x := by simp [List.getD_eq_getElem?_getD, h]
theorem short_stepW {a L : List Nat} {k : Nat} {r x b : Int} (hk : k < a.length) (hL : L.length = a.length) (hx : x = (a.getD k 0 : Nat)) (hq : 0 ≤ (r * 18446744073709551616 + x) / b)
    (h : (vw (a.drop (k + 1)) : Int) = vw (L.drop (k + 1)) * b + r) :
    (vw (a.drop k) : Int) = vw ((L.set k ((r * 18446744073709551616 + x) / b).toNat).drop k) * b + (r * 18446744073709551616 + x) % b := by
  rw [vw_drop hk, drop_setW og]
  have e : ((((r * 18446744073709551616 + x) / b).toNat : Nat) : Int) = (r * 18446744073709551616 + x) / b := Int.toNat_of_nonneg hq
  have d := Int.mul_ediv_add_emod (r * 18446744073709551616 + x) b
  simp only [Int.natCast_add, Int.natCast_mul, e, h, ← hx]
  generalize (r * 18446744073709551616 + x) / b = q at *
  generalize (r * 18446744073709551616 + x) % b = m at *
  grind
theorem short_endW {a L : List Nat} {r b : Int} (hb : 0 < b) (hr0 : 0 ≤ r) (hr1 : r ≤ b - 1) (h : (vw (a.drop 0) : Int) = vw (L.drop 0) * b + r) : vw L = vw a / b.toNat ∧ r.toNat = vw a % b.toNat := by
  simp only [List.drop_zero] at h
  obtain ⟨n, rfl⟩ := Int.eq_ofNat_of_zero_le (Int.le_of_lt hb)
  obtain ⟨m, rfl⟩ := Int.eq_ofNat_of_zero_le hr0
  simp only [Int.toNat_natCast]
  have e : vw a = vw L * n + m := by
    apply Int.ofNat_inj.1
    rw [h]; simp
  have hn : 0 < n := og
  have hm : m < n := og
  rw [e]
  constructor
  · rw [Nat.mul_comm, Nat.mul_add_div hn, Nat.div_eq_of_lt hm, Nat.add_zero]
  · rw [Nat.mul_comm, Nat.mul_add_mod, Nat.mod_eq_of_lt hm]
theorem add_relW {a b L : List Nat} {k : Nat} {x y c c' r : Int} (hk : k < L.length) (hx : x = (a.getD k 0 : Nat)) (hy : y = (b.getD k 0 : Nat)) (hr : x + y + c = c' * 18446744073709551616 + r) (hr0 : 0 ≤ r)
    (h : (vw (L.take k) : Int) + c * pq k = vw (a.take k) + vw (b.take k)) :
    (vw ((L.set k r.toNat).take (k + 1)) : Int) + c' * pq (k + 1) = vw (a.take (k + 1)) + vw (b.take (k + 1)) := by
  rw [zcu hk, vw_take_succ' a, vw_take_succ' b, pq_succ]
  have e : ((r.toNat : Nat) : Int) = r := Int.toNat_of_nonneg hr0
  have e2 : r = x + y + c - c' * 18446744073709551616 := by omega
  simp only [Int.natCast_add, Int.natCast_mul, e, ← hx, ← hy]
  rw [e2]
  generalize (vw (L.take k) : Int) = V at *
  generalize (vw (a.take k) : Int) = W at *
  generalize (vw (b.take k) : Int) = Z at *
  generalize (pq k : Int) = P at *
  grind
end Go.Proofs.YtijjjbgnpfjpmaaGreatDoor
namespace Go.Proofs.YtijjjbgnpfjpmaaGreatDoor
open Go.RowKit
set_option linter.unusedVariables false
theorem u64_info : (Tryz.prog.info? 212).map (fun i => (i.zero, i.size, i.bytes)) = some (some (.int .u64 0), 1, 8) := by kernel_rfl
theorem elW : ElT Tryz.prog 148 212 (.int .u64 0) 8 := ⟨Tryz.underlying148, info_parts u64_info, rfl⟩
def TyW (w : World) (v : Value) : Prop := ∀ A m c, v = .slice A m c → m ≠ 0 → ∃ b off cs s, A = some ⟨b, off, none⟩ ∧ w.heap[b]? = some (Obj.cells cs 212 s)
def IsW (w : World) (v : Value) (n : Nat) : Prop := IsL .u64 w 0 w.heap.size v (wd n) ∧ TyW w v
def KU (w w' : World) : Prop := w.heap.size ≤ w'.heap.size ∧ ∀ (b : Nat) cs s, w.heap[b]? = some (Obj.cells cs 212 s) → w'.heap[b]? = w.heap[b]?
theorem KU.refl (w : World) : KU w w := ⟨Nat.le_refl _, fun _ _ _ _ => rfl⟩
theorem KU.trans {a b c : World} (h : KU a b) (k : KU b c) : KU a c := ⟨Nat.le_trans h.1 k.1, fun i cs s hi => (k.2 i cs s ((h.2 i cs s hi).trans hi)).trans (h.2 i cs s hi)⟩
theorem zag {w : World} {b : Nat} {o : Obj} (h : w.heap[b]? = some o) : b < w.heap.size := (Array.getElem?_eq_some_iff.1 h).1
theorem KU.of {w w' : World} (hb : Below w.heap.size w w') : KU w w' := ⟨hb.size, fun b _ _ h => hb.block b (zag h)⟩
theorem KU.set {w : World} {g : Nat} {t : TypeId} {xs : List Value} (hr : Row w g t xs) (ht : t ≠ 212) (o : Nat) (u : Value) : KU w (w.setCell ⟨g, o, none⟩ u) := by
  refine ⟨by simp [World.setCell], fun b cs s h => Below.heap_setCell w ⟨g, o, none⟩ u b ?_⟩
  rintro rfl
  unfold Row at hr
  rw [hr] at h
  injection h with h
  injection h with _ h2
  exact ht h2
theorem KU.drewN (w : World) (n : Nat) : KU w (w.drewN n) := KU.refl w
theorem IsW.ku {w w' : World} {v : Value} {n : Nat} (h : IsW w v n) (hk : KU w w') : IsW w' v n := by
  obtain ⟨⟨A, c, rfl, h1, h2, h3⟩, h4⟩ := h
  refine ⟨⟨A, c, rfl, h1, h2, fun hx => ?_⟩, fun A' m' c' he hm => ?_⟩
  · obtain ⟨b, off, hA, g1, g2, g3⟩ := h3 hx
    have hl : (wd n).length ≠ 0 := by
      intro e
      exact hx (cel_nil_iff.2 (List.eq_nil_of_length_eq_zero e))
    obtain ⟨b', off', cs, s, hA', hb⟩ := h4 A _ c rfl hl
    rw [hA] at hA'
    simp only [Option.some.injEq, Addr.mk.injEq, and_true] at hA'
    obtain ⟨rfl, rfl⟩ := hA'
    exact ⟨b, off, hA, g1, Nat.lt_of_lt_of_le g2 hk.1, fun j v hv => (World.cell?_of_block (hk.2 b cs s hb)).trans (g3 j v hv)⟩
  · obtain ⟨b, off, cs, s, hA, hb⟩ := h4 A' m' c' he hm
    exact ⟨b, off, cs, s, hA, (hk.2 b cs s hb).trans hb⟩
theorem IsW.next {w w' : World} {v : Value} {n : Nat} (h : IsW w v n) (hb : Below w.heap.size w w') : IsW w' v n := h.ku (.of hb)
theorem IsW.zero {w : World} : IsW w (.slice none 0 0) 0 := by
  refine ⟨by rw [zcd]; exact IsL.nil, fun A m c h hm => ?_⟩
  cases h
  exact (hm rfl).elim
theorem IsW.drewN {w : World} {v : Value} {n : Nat} (h : IsW w v n) (m : Nat) : IsW (w.drewN m) v n := h
theorem isW_in {w : World} {G : Nat} {l : List Nat} {v : Value} {n : Nat} (hr : Row w G 212 (cel .u64 l)) (h : IsL .u64 w G (G + 1) v (wd n)) : IsW w v n := by
  refine ⟨h.wide (Nat.zero_le _) hr.lt, fun A m c he hm => ?_⟩
  obtain ⟨A', c', hv, _, _, hs⟩ := h
  rw [hv] at he
  cases he
  obtain ⟨b, off, hA, h1, h2, _⟩ := hs (fun e => hm (by rw [← List.length_eq_zero_iff] at e; rw [zal] at e; exact e))
  obtain rfl : b = G := by omega
  exact ⟨b, off, _, _, hA, hr⟩
def RetW (w : World) (n : Nat) (e : Ending) (w' : World) : Prop := (∃ v, e = .returned v ∧ IsW w' v n) ∧ Below w.heap.size w w'
theorem zcm {k : IntKind} {w : World} {b off j : Nat} {l : List Nat} (hl : Lw l) (hc : ∀ j v, (cel k l)[j]? = some v → w.cell? ⟨b, off + j, none⟩ = some v) (hj : j < l.length) :
    ∃ x : Int, Hid (x = (l.getD j 0 : Nat)) ∧ 0 ≤ x ∧ x ≤ 18446744073709551615 ∧ w.cell? ⟨b, off + j, none⟩ = some (.int k x) :=
  ⟨_, rfl, by omega, by have := lw_getD hl j; omega, hc j _ (zdf hj)⟩
theorem Row.loW {k : IntKind} {w : World} {g : Nat} {t : TypeId} {l : List Nat} (h : Row w g t (cel k l)) (hl : Lw l) {i : Nat} (hi : i < l.length) :
    ∃ x : Int, Hid (x = (l.getD i 0 : Nat)) ∧ 0 ≤ x ∧ x ≤ 18446744073709551615 ∧ w.cell? ⟨g, i, none⟩ = some (.int k x) :=
  ⟨_, rfl, by omega, by have := lw_getD hl i; omega, by rw [h.cell, zdf hi]⟩
theorem zec {l : List Nat} (h : Lw l) {i x : Nat} (hx : x < 18446744073709551616) : Lw (l.set i x) := fun y hy => by
  rcases List.mem_or_eq_of_mem_set hy with h1 | h1
  · exact h y h1
  · omega
theorem zcg (n : Nat) : Lw (List.replicate n 0) := by
  intro x hx
  rw [List.mem_replicate] at hx
  omega
set_option maxHeartbeats 400000 in
theorem isOne_b (A : Option Addr) (c : Nat) (l : List Nat) (w : World) (lo hi : Nat) (hl : l.length ≤ maxLen) (hA : SV w lo hi A (cel .u64 l)) (b : Bool) (hb : b = decide (l = [1])) :
    Calls Tryz.prog 237 #[.slice A l.length c] w fun e w' => e = .returned (.bool b) ∧ w = w' := by
  unfold maxLen at hl
  have HB := Lib.hid hb; clear hb
  by_cases h1 : l.length = 1
  · obtain ⟨x, rfl⟩ : ∃ x, l = [x] := by
      match l, h1 with
      | [x], _ => exact ⟨x, rfl⟩
    obtain ⟨ba, oa, rfl, _, _, hca⟩ := hA (by simp [cel])
    have hc := hca 0 (.int .u64 (x : Int)) rfl
    rw [Nat.add_zero] at hc
    clear hca
    obtain ⟨y, hy⟩ : ∃ y : Int, y = (x : Int) := ⟨_, rfl⟩
    rw [← hy] at hc
    have HY := Lib.hid hy
    clear hy
    by_cases hx : y = 1
    · subst hx
      go_enter Tryz.func237, Tryz.ntmps237
      go_wp2
      go_ret
      exact ⟨zcp (by rw [HB.out]; have := HY.out; simp; omega), rfl⟩
    · have hx' : (y == 1) = false := by simpa using hx
      go_enter Tryz.func237, Tryz.ntmps237
      go_wp2
      go_ret
      exact ⟨zcp (by rw [HB.out]; have := HY.out; simp; omega), rfl⟩
  · have h2 : (((l.length : Int)) == 1) = false := beq_eq_false_iff_ne.2 (by omega)
    have Hn : Hid (l ≠ [1]) := by rintro rfl; exact h1 rfl
    clear h1
    go_enter Tryz.func237, Tryz.ntmps237
    go_wp2
    go_ret
    exact ⟨zcp (by rw [HB.out]; simp [Hn.out]), rfl⟩
theorem wd_one : wd 1 = [1] := zeo og og
theorem zbw {w : World} {v : Value} {n : Nat} (h : IsW w v n) (b : Bool) (hb : b = decide (n = 1)) :
    Calls Tryz.prog 237 #[v] w fun e w' => e = .returned (.bool b) ∧ w = w' := by
  have hl := IsL.length_le h.1
  obtain ⟨A, c, rfl, _, _, hA⟩ := h.1
  refine isOne_b A c _ w _ _ hl hA b ?_
  rw [hb]
  congr 1
  rw [← wd_one]
  exact propext ⟨fun h => by rw [h], fun h => wd_inj h⟩
theorem trim_isW {w : World} {lo hi c m : Nat} {A : Option Addr} {l : List Nat} (hl : Lw l) (hll : l.length ≤ c) (hlc : c ≤ maxLen) (hm : m ≤ l.length) (hz : ∀ j, m ≤ j → j < l.length → l.getD j 0 = 0)
    (hlast : m = 0 ∨ l.getD (m - 1) 0 ≠ 0) (hA : SV w lo hi A (cel .u64 l)) : IsL .u64 w lo hi (.slice A m c) (wd (vw l)) := by
  have h := trimw_to hl hm hz hlast
  refine ⟨A, c, ?_, ?_, hlc, ?_⟩
  · rw [h, List.length_take, Nat.min_eq_left hm]
  · rw [h, List.length_take]; omega
  · rw [h, zeg]; exact hA.take m
set_option maxHeartbeats 400000 in
theorem trim_w (A : Option Addr) (c : Nat) (l : List Nat) (w : World) (lo hi : Nat) (hl : Lw l) (hll : l.length ≤ c) (hlc : c ≤ maxLen) (hA : SV w lo hi A (cel .u64 l)) :
    Calls Tryz.prog 240 #[.slice A l.length c] w fun e w' => (∃ v, e = .returned v ∧ IsL .u64 w lo hi v (wd (vw l))) ∧ w = w' := by
  have Hlc2 := Lib.hid hlc
  unfold maxLen at hlc
  have Hl := Lib.hid hl; clear hl
  go_enter Tryz.func240, Tryz.ntmps240
  go_wp2
  go_loop [3] (fun s => ∃ m : Nat, m ≤ l.length ∧ s = .int .i64 (m : Int) ∧ Hid (∀ j, m ≤ j → j < l.length → l.getD j 0 = 0)) (fun s => (intOf s).toNat)
  case atStart => exact ⟨l.length, Nat.le_refl _, rfl, Lib.hid (by intro j h1 h2; omega)⟩
  case round =>
    obtain ⟨m, hm, rfl, hz⟩ := hrel
    rcases m with _ | m
    · go_wp2
      go_ret
      exact ⟨⟨_, rfl, trim_isW Hl.out hll Hlc2.out (Nat.zero_le _) hz.out (.inl rfl) hA⟩, rfl⟩
    · obtain ⟨ba, oa, rfl, _, _, hca⟩ := hA (zap hm)
      obtain ⟨x, hx, hx0, hxc⟩ := zbo (j := m) hca og
      clear hca
      by_cases h0 : x = 0
      · subst h0
        go_wp2
        go_round
        case rel => exact ⟨m, by omega, by go_num, Lib.hid (by
          intro j h1 h2
          rcases Nat.eq_or_lt_of_le h1 with h3 | h3
          · subst h3; have := hx.out; omega
          · exact hz.out j h3 h2)⟩
        case measure => simp [intOf]
      · have hb : (x == 0) = false := by simpa using h0
        go_wp2
        go_ret
        exact ⟨⟨_, rfl, trim_isW Hl.out hll Hlc2.out hm hz.out (.inr (by have := hx.out; simp only [Nat.add_sub_cancel]; omega)) hA⟩, rfl⟩
theorem zen {w : World} {G : Nat} {l : List Nat} (hl : Lw l) (hlc : l.length ≤ maxLen) (hr : Row w G 212 (cel .u64 l)) :
    Calls Tryz.prog 240 #[.slice (some ⟨G, 0, none⟩) l.length l.length] w fun e w' => (∃ v, e = .returned v ∧ IsW w v (vw l)) ∧ w = w' :=
  (trim_w _ _ l w G (G + 1) hl (Nat.le_refl _) hlc hr.sv).mono fun e w' ⟨⟨v, he, hv⟩, hw⟩ => ⟨⟨v, he, isW_in hr hv⟩, hw⟩
set_option maxHeartbeats 400000 in
theorem compare_list (A B : Option Addr) (c d : Nat) (a b : List Nat) (w : World) (lo hi lo' hi' : Nat) (ha : Lw a) (hb : Lw b) (hal : a.length ≤ maxLen) (hbl : b.length ≤ maxLen) (hA : SV w lo hi A (cel .u64 a)) (hB : SV w lo' hi' B (cel .u64 b))
    (r : Int) (hr1 : a.length < b.length → r = -1) (hr2 : b.length < a.length → r = 1) (hr3 : a.length = b.length → r = sgn (vw a) (vw b)) :
    Calls Tryz.prog 213 #[.slice A a.length c, .slice B b.length d] w fun e w' => e = .returned (.int .i64 r) ∧ Dr w w' := by
  unfold maxLen at hal hbl
  have Ha := Lib.hid ha; clear ha
  have Hb := Lib.hid hb; clear hb
  have Hr3 := Lib.hid hr3; clear hr3
  rcases Nat.lt_trichotomy a.length b.length with h | h | h
  · have Hr := Lib.hid (hr1 h); clear hr1 hr2
    go_enter Tryz.func213, Tryz.ntmps213
    go_wp2
    go_ret
    exact ⟨zae Hr.out.symm, Dr.refl w⟩
  · have Hr := Lib.hid (Hr3.out h); clear hr1 hr2 Hr3
    have hne : (((a.length : Int)) != (b.length : Int)) = false := by simp [h]
    have H := Lib.hid h
    have h1 : a.length ≤ b.length := og
    have h2 : b.length ≤ a.length := og
    clear h
    go_enter Tryz.func213, Tryz.ntmps213
    go_wp2
    go_loopw [5] (fun i wr => ∃ k : Nat, k ≤ a.length ∧ i = .int .i64 ((k : Int) - 1) ∧ Dr w wr ∧ Hid (a.drop k = b.drop k)) (fun i _ => (intOf i + 1).toNat)
    case atStart => exact ⟨a.length, Nat.le_refl _, rfl, Dr.refl w, by rw [List.drop_length, H.out, List.drop_length]; rfl⟩
    case round =>
      obtain ⟨k, hk, rfl, ⟨n, rfl⟩, hd⟩ := hrel
      rcases k with _ | k
      · go_wp2
        go_ret
        refine ⟨zae ?_, (Dr.refl w).drewN n⟩
        have := hd.out
        simp only [List.drop_zero] at this
        rw [Hr.out, sgn_eq (by rw [this])]
      · obtain ⟨ba, oa, rfl, _, _, hca⟩ := hA (zap hk)
        obtain ⟨bb, ob, rfl, _, _, hcb⟩ := hB (zap (Nat.le_trans hk h1))
        obtain ⟨x, hx, hx0, hxc⟩ := zbo (j := k) hca og
        obtain ⟨y, hy, hy0, hyc⟩ := zbo (j := k) hcb og
        clear hca hcb
        rw [show (((k + 1 : Nat) : Int) - 1) = (k : Int) from by omega]
        go_wp2
        go_quiet (fail)
        go_wp2
        · go_ret
          refine ⟨zae ?_, ((Dr.refl w).drewN n).drewN _⟩
          have hlt : x < y := by assumption
          rw [Hr.out, zdl (vw_lt_at Ha.out Hb.out H.out og hd.out (oh2 hx hy))]
        · go_quiet (fail)
          go_wp2
          · go_ret
            refine ⟨zae ?_, (((Dr.refl w).drewN n).drewN _).drewN _⟩
            have hlt : y < x := by assumption
            rw [Hr.out, zfj (vw_lt_at Hb.out Ha.out H.out.symm og hd.out.symm (oh2 hx hy))]
          · go_roundw
            case rel =>
              have g1 : y ≤ x := by assumption
              have g2 : x ≤ y := by assumption
              exact ⟨k, by omega, rfl, ⟨_, rfl⟩, Lib.hid (drop_step H.out og hd.out (oh2 hx hy))⟩
            case measure => simp [intOf]
  · have Hr := Lib.hid (hr2 h); clear hr1 hr2
    go_enter Tryz.func213, Tryz.ntmps213
    go_wp2
    go_ret
    exact ⟨zae Hr.out.symm, Dr.refl w⟩
theorem zbu {w : World} {va vb : Value} {x y : Nat} (ha : IsW w va x) (hb : IsW w vb y) (r : Int) (hr : r = sgn x y) :
    Calls Tryz.prog 213 #[va, vb] w fun e w' => e = .returned (.int .i64 r) ∧ Dr w w' := by
  have h1 := IsL.length_le ha.1
  have h2 := IsL.length_le hb.1
  obtain ⟨A, c, rfl, _, _, hA⟩ := ha.1
  obtain ⟨B, d, rfl, _, _, hB⟩ := hb.1
  refine compare_list A B c d (wd x) (wd y) w _ _ _ _ (lw_wd x) (lw_wd y) h1 h2 hA hB _ ?_ ?_ ?_
  · intro h; exact hr.trans (zdl (wd_len_of_lt h))
  · intro h; exact hr.trans (zfj (wd_len_of_lt h))
  · intro _; rw [zew, zew]; exact hr
namespace Fold
theorem maskN (a : Nat) (ha : a < 18446744073709551616) : bits .and .u64 (a : Int) 4294967295 = ((a % 4294967296 : Nat) : Int) := by
  have h := bits_and_u64_nat a 4294967295 ha (by omega)
  have e : a &&& 4294967295 = a % 4294967296 := Nat.and_two_pow_sub_one_eq_mod a 32
  rw [e] at h
  exact h
theorem divN (a : Nat) : (a : Int) / 4294967296 = ((a / 4294967296 : Nat) : Int) := by omega
theorem mulN (a b : Nat) : (a : Int) * (b : Int) = ((a * b : Nat) : Int) := (Int.natCast_mul a b).symm
theorem addN (a b : Nat) : (a : Int) + (b : Int) = ((a + b : Nat) : Int) := (Int.natCast_add a b).symm
theorem wrapN (a : Nat) (ha : a < 18446744073709551616) : IntKind.u64.wrap (a : Int) = (a : Int) := by rw [IntKind.wrap_u64]; omega
theorem wrapM (a : Nat) : IntKind.u64.wrap (a : Int) = ((a % 18446744073709551616 : Nat) : Int) := by rw [IntKind.wrap_u64]; omega
end Fold
set_option maxHeartbeats 1000000 in
theorem mul64_n (x y : Nat) (hx : x < 18446744073709551616) (hy : y < 18446744073709551616) (w : World) :
    Calls Tryz.prog 241 #[.int .u64 x, .int .u64 y] w fun e w' => e = .returned (.tuple #[.int .u64 ((x * y / 18446744073709551616 : Nat) : Int), .int .u64 ((x * y % 18446744073709551616 : Nat) : Int)]) ∧ w' = w := by
  obtain ⟨bd, bt, bw, hhi⟩ := Lib.mul64_hi x y hx hy
  have ba := Lib.half_mul_le (a := x / 4294967296) (b := y / 4294967296) (by omega) (by omega)
  have bb := Lib.half_mul_le (a := x / 4294967296) (b := y % 4294967296) (by omega) (by omega)
  have bc := Lib.half_mul_le (a := x % 4294967296) (b := y / 4294967296) (by omega) (by omega)
  have ba' : x / 4294967296 * (y / 4294967296) < 18446744073709551616 := by omega
  have bb' : x / 4294967296 * (y % 4294967296) < 18446744073709551616 := by omega
  have bc' : x % 4294967296 * (y / 4294967296) < 18446744073709551616 := by omega
  have bh1 : x / 4294967296 * (y / 4294967296) + (x / 4294967296 * (y % 4294967296) + x % 4294967296 * (y % 4294967296) / 4294967296) / 4294967296 < 18446744073709551616 := by omega
  have bh : x / 4294967296 * (y / 4294967296) + (x / 4294967296 * (y % 4294967296) + x % 4294967296 * (y % 4294967296) / 4294967296) / 4294967296 + ((x / 4294967296 * (y % 4294967296) + x % 4294967296 * (y % 4294967296) / 4294967296) % 4294967296 + x % 4294967296 * (y / 4294967296)) / 4294967296 < 18446744073709551616 := by omega
  go_enter Tryz.func241, Tryz.ntmps241
  go_wp2
  simp only [Fold.maskN x hx, Fold.maskN y hy, Fold.divN, Fold.mulN, Fold.addN, Fold.wrapN _ bd, Fold.wrapN _ bb', Fold.wrapN _ bt, Fold.maskN _ bt, Fold.wrapN _ bc', Fold.wrapN _ bw, Fold.wrapN _ ba', Fold.wrapN _ bh1, Fold.wrapN _ bh, Fold.wrapM (x * y)]
  rw [hhi]
  go_ret2
  exact ⟨rfl, rfl⟩
theorem add64_run (x y c : Int) (hx : 0 ≤ x) (hy : 0 ≤ y) (hc0 : 0 ≤ c) (hc : c ≤ 1) (w : World) :
    (callFunc 242 #[.int .u64 x, .int .u64 y, .int .u64 c]).run Tryz.prog w =
      .ok (.value (.tuple #[.int .u64 ((x + y + c) % 18446744073709551616), .int .u64 ((x + y + c) / 18446744073709551616)])) w := by
  rw [run_callFunc_extern Tryz.func242 (by kernel_rfl) (by kernel_rfl) (by kernel_rfl) (e := add64Entry) (by kernel_rfl), run_add64 x y c hx hy hc0 hc]
  rfl
theorem zfp (x y c : Int) (hx : 0 ≤ x) (hx1 : x ≤ 18446744073709551615) (hy : 0 ≤ y) (hy1 : y ≤ 18446744073709551615) (hc : 0 ≤ c) (hc1 : c ≤ 1) : ∃ S C : Int, Hid (x + y + c = C * 18446744073709551616 + S) ∧ 0 ≤ S ∧ S ≤ 18446744073709551615 ∧ 0 ≤ C ∧ C ≤ 1 ∧
    ∀ w : World, (callFunc 242 #[.int .u64 x, .int .u64 y, .int .u64 c]).run Tryz.prog w = .ok (.value (.tuple #[.int .u64 S, .int .u64 C])) w := by
  refine ⟨(x + y + c) % 18446744073709551616, (x + y + c) / 18446744073709551616, by unfold Hid; omega, by omega, by omega, by omega, by omega, fun w => add64_run x y c hx hy hc hc1 w⟩
theorem sub64_c (x y c : Int) (hx : 0 ≤ x) (hx1 : x ≤ 18446744073709551615) (hy : 0 ≤ y) (hy1 : y ≤ 18446744073709551615) (hc : 0 ≤ c) (hc1 : c ≤ 1) : ∃ S C : Int, Hid (S = x - y - c + 18446744073709551616 * C) ∧ 0 ≤ S ∧ S ≤ 18446744073709551615 ∧ 0 ≤ C ∧ C ≤ 1 ∧
    ∀ w : World, (callFunc 255 #[.int .u64 x, .int .u64 y, .int .u64 c]).run Tryz.prog w = .ok (.value (.tuple #[.int .u64 S, .int .u64 C])) w := by
  obtain ⟨m, rfl⟩ := Int.eq_ofNat_of_zero_le hx
  obtain ⟨n, rfl⟩ := Int.eq_ofNat_of_zero_le hy
  obtain ⟨b, rfl⟩ := Int.eq_ofNat_of_zero_le hc
  refine ⟨(((m + 18446744073709551616 - n - b) % 18446744073709551616 : Nat) : Int), ((if m < n + b then 1 else 0 : Nat) : Int), ?_, by omega, by omega, by omega, by split <;> omega, fun w => ?_⟩
  · unfold Hid; split <;> omega
  · rw [run_callFunc_extern Tryz.func255 (by kernel_rfl) (by kernel_rfl) (by kernel_rfl) (e := sub64Entry) (by kernel_rfl), run_sub64 m n b (by omega) w]
    rfl
theorem mul64_at (x y : Int) (h0 : 0 ≤ x) (h1 : x ≤ 18446744073709551615) (g0 : 0 ≤ y) (g1 : y ≤ 18446744073709551615) : ∃ H L : Int, Hid (x * y = H * 18446744073709551616 + L) ∧ 0 ≤ H ∧ H ≤ 18446744073709551614 ∧ 0 ≤ L ∧ L ≤ 18446744073709551615 ∧
    ∀ w, Calls Tryz.prog 241 #[.int .u64 x, .int .u64 y] w fun e w' => e = .returned (.tuple #[.int .u64 H, .int .u64 L]) ∧ w' = w := by
  obtain ⟨n, rfl⟩ := Int.eq_ofNat_of_zero_le h0
  obtain ⟨m, rfl⟩ := Int.eq_ofNat_of_zero_le g0
  have e := Nat.div_add_mod (n * m) 18446744073709551616
  have hb : n * m ≤ 18446744073709551615 * 18446744073709551615 := Nat.mul_le_mul (by omega) (by omega)
  have hh : n * m / 18446744073709551616 ≤ 18446744073709551614 := by
    have := Nat.div_le_div_right (c := 18446744073709551616) hb
    have e2 : 18446744073709551615 * 18446744073709551615 / 18446744073709551616 = 18446744073709551614 := by decide
    omega
  refine ⟨((n * m / 18446744073709551616 : Nat) : Int), ((n * m % 18446744073709551616 : Nat) : Int), ?_, by omega, by omega, by omega, by omega, fun w => ?_⟩
  · unfold Hid
    have : ((n * m : Nat) : Int) = ((18446744073709551616 * (n * m / 18446744073709551616) + n * m % 18446744073709551616 : Nat) : Int) := by rw [e]
    rw [← Int.natCast_mul, this]
    generalize n * m / 18446744073709551616 = p
    generalize n * m % 18446744073709551616 = q
    omega
  · exact mul64_n n m (by omega) (by omega) w
set_option maxHeartbeats 400000 in
theorem plus_le (A B : Option Addr) (c d : Nat) (a b : List Nat) (w : World) (lo hi lo' hi' : Nat) (hi1 : hi ≤ w.heap.size) (hi2 : hi' ≤ w.heap.size) (ha : Lw a) (hb : Lw b) (hal : a.length ≤ 4294967296) (hbl : b.length ≤ 4294967296) (hle : b.length ≤ a.length)
    (hA : SV w lo hi A (cel .u64 a)) (hB : SV w lo' hi' B (cel .u64 b)) :
    Calls Tryz.prog 256 #[.slice A a.length c, .slice B b.length d] w (RetW w (vw a + vw b)) := by
  have Ha := Lib.hid ha; clear ha
  have Hb := Lib.hid hb; clear hb
  go_enter Tryz.func256, Tryz.ntmps256
  go_wp2_with (at_make; refine zdd elW rfl _ _ rfl (a.length + 1) rfl rfl (by omega) (by omega) og ?_; intro G w1 hG hrow hb1 hz1)
  go_loopw [6, 23] (fun bw i wr => ∃ k : Nat, ∃ L : List Nat, ∃ br : Int, k ≤ a.length ∧ i = .int .i64 (k : Int) ∧ bw = .int .u64 br ∧ 0 ≤ br ∧ br ≤ 1 ∧ Row wr G 212 (cel .u64 L) ∧ Below G w wr ∧ Hid (wr.heap.size = G + 1) ∧
      Hid (L.length = a.length + 1 ∧ Lw L ∧ (vw (L.take k) : Int) + br * pq k = vw (a.take k) + vw (b.take k))) (fun _ i _ => a.length - (intOf i).toNat)
  case atStart => exact ⟨0, _, 0, Nat.zero_le _, rfl, rfl, by omega, by omega, hrow, hb1, hz1, by simp, zcg _, by simp [vw]⟩
  case round =>
    obtain ⟨k, L, br, hk, rfl, rfl, hbr0, hbr1, hr, hbw, hsz, hrel⟩ := hrel
    have hbw' : Below w.heap.size w wr := by have := hG.out; subst this; exact hbw
    have hkL : Hid (k < L.length) := by rw [hrel.out.1]; unfold Hid; omega
    rcases Nat.lt_or_ge k a.length with hlt | hge
    · obtain ⟨ba, oa, rfl, _, _, hca⟩ := (hA.below hbw' hi1) (zap (j := k) hlt)
      obtain ⟨x, hx, hx0, hx1, hxc⟩ := zcm (j := k) Ha.out hca hlt
      clear hca
      obtain ⟨z, hz, hz0, hzc⟩ := hr.num (i := k) (oh hkL)
      have hzf := hr.frozen k
      rcases Nat.lt_or_ge k b.length with hlb | hgb
      · obtain ⟨bb, ob, rfl, _, _, hcb⟩ := (hB.below hbw' hi2) (zap (j := k) hlb)
        obtain ⟨y, hy, hy0, hy1, hyc⟩ := zcm (j := k) Hb.out hcb hlb
        clear hcb
        obtain ⟨S, C, hs, hS0, hS1, hC0, hC1, hadd⟩ := zfp x y br hx0 hx1 hy0 hy1 hbr0 hbr1
        go_wp2
        go_roundw
        case rel =>
          exact ⟨k + 1, L.set k S.toNat, C, by omega, by go_num, rfl, hC0, hC1, hr.setNum k _ _ og, hbw.setCell (Nat.le_refl _) _, by have := hsz.out; simpa [Hid, World.setCell] using this,
              by rw [List.length_set]; exact hrel.out.1, zec hrel.out.2.1 og, add_relW hkL.out hx.out hy.out hs.out hS0 hrel.out.2.2⟩
        case measure => simp [intOf]; omega
      · obtain ⟨S, C, hs, hS0, hS1, hC0, hC1, hadd⟩ := zfp x 0 br hx0 hx1 (by omega) (by omega) hbr0 hbr1
        go_wp2
        go_roundw
        case rel =>
          exact ⟨k + 1, L.set k S.toNat, C, by omega, by go_num, rfl, hC0, hC1, hr.setNum k _ _ og, hbw.setCell (Nat.le_refl _) _, by have := hsz.out; simpa [Hid, World.setCell] using this,
              by rw [List.length_set]; exact hrel.out.1, zec hrel.out.2.1 og, add_relW hkL.out hx.out (by rw [zbg hgb]; rfl) hs.out hS0 hrel.out.2.2⟩
        case measure => simp [intOf]; omega
    · obtain rfl : k = a.length := og
      obtain ⟨z, hz, hz0, hzc⟩ := hr.num (i := a.length) hkL.out
      have hzf := hr.frozen a.length
      have hr2 := hr.setNum a.length br.toNat br (by omega)
      have H1 : Hid (vw (L.set a.length br.toNat) = vw a + vw b ∧ (L.set a.length br.toNat).length = a.length + 1 ∧ Lw (L.set a.length br.toNat)) := by
        have h1 := zcu (x := br.toNat) hkL.out
        have h2 := hrel.out.2.2
        rw [zay (by rw [List.length_set, hrel.out.1]; omega)] at h1
        rw [zay (Nat.le_refl _), zay (l := b) (by omega)] at h2
        refine ⟨?_, by rw [List.length_set]; exact hrel.out.1, zec hrel.out.2.1 og⟩
        rw [h1]
        obtain ⟨m, rfl⟩ := Int.eq_ofNat_of_zero_le hbr0
        rw [Int.toNat_natCast, Nat.mul_comm]
        apply Int.ofNat_inj.1
        simp only [Int.natCast_add, Int.natCast_mul]
        exact h2
      have Hr2 := Lib.hid hr2
      have hbw2 := hbw'.setCell (p := ⟨G, a.length, none⟩) (by have := hG.out; subst this; exact Nat.le_refl _) (.int .u64 br)
      clear hrel hr hr2
      go_wp2_with fail
      generalize (wr.setCell ⟨G, a.length, none⟩ (.int .u64 br)) = w3 at *
      rw [← H1.out.2.1]
      refine (zen H1.out.2.2 (by rw [H1.out.2.1]; unfold maxLen; omega) Hr2.out).mono ?_
      rintro e w2 ⟨⟨v, rfl, hv⟩, rfl⟩
      go_wp2_with fail
      go_ret
      refine ⟨⟨_, rfl, ?_⟩, hbw2⟩
      rw [← H1.out.1]
      exact hv
set_option maxHeartbeats 400000 in
theorem plus_sw (A B : Option Addr) (c d : Nat) (a b : List Nat) (w : World) (lo hi lo' hi' : Nat) (hi1 : hi ≤ w.heap.size) (hi2 : hi' ≤ w.heap.size) (ha : Lw a) (hb : Lw b) (hal : a.length ≤ 4294967296) (hbl : b.length ≤ 4294967296) (hle : a.length < b.length)
    (hA : SV w lo hi A (cel .u64 a)) (hB : SV w lo' hi' B (cel .u64 b)) :
    Calls Tryz.prog 256 #[.slice A a.length c, .slice B b.length d] w (RetW w (vw b + vw a)) := by
  have Ha := Lib.hid ha; clear ha
  have Hb := Lib.hid hb; clear hb
  go_enter Tryz.func256, Tryz.ntmps256
  go_wp2_with (at_make; refine zdd elW rfl _ _ rfl (b.length + 1) rfl rfl (by omega) (by omega) og ?_; intro G w1 hG hrow hb1 hz1)
  go_loopw [6, 23] (fun bw i wr => ∃ k : Nat, ∃ L : List Nat, ∃ br : Int, k ≤ b.length ∧ i = .int .i64 (k : Int) ∧ bw = .int .u64 br ∧ 0 ≤ br ∧ br ≤ 1 ∧ Row wr G 212 (cel .u64 L) ∧ Below G w wr ∧ Hid (wr.heap.size = G + 1) ∧
      Hid (L.length = b.length + 1 ∧ Lw L ∧ (vw (L.take k) : Int) + br * pq k = vw (b.take k) + vw (a.take k))) (fun _ i _ => b.length - (intOf i).toNat)
  case atStart => exact ⟨0, _, 0, Nat.zero_le _, rfl, rfl, by omega, by omega, hrow, hb1, hz1, by simp, zcg _, by simp [vw]⟩
  case round =>
    obtain ⟨k, L, br, hk, rfl, rfl, hbr0, hbr1, hr, hbw, hsz, hrel⟩ := hrel
    have hbw' : Below w.heap.size w wr := by have := hG.out; subst this; exact hbw
    have hkL : Hid (k < L.length) := by rw [hrel.out.1]; unfold Hid; omega
    rcases Nat.lt_or_ge k b.length with hlt | hge
    · obtain ⟨ba, oa, rfl, _, _, hca⟩ := (hB.below hbw' hi2) (zap (j := k) hlt)
      obtain ⟨x, hx, hx0, hx1, hxc⟩ := zcm (j := k) Hb.out hca hlt
      clear hca
      obtain ⟨z, hz, hz0, hzc⟩ := hr.num (i := k) (oh hkL)
      have hzf := hr.frozen k
      rcases Nat.lt_or_ge k a.length with hlb | hgb
      · obtain ⟨bb, ob, rfl, _, _, hcb⟩ := (hA.below hbw' hi1) (zap (j := k) hlb)
        obtain ⟨y, hy, hy0, hy1, hyc⟩ := zcm (j := k) Ha.out hcb hlb
        clear hcb
        obtain ⟨S, C, hs, hS0, hS1, hC0, hC1, hadd⟩ := zfp x y br hx0 hx1 hy0 hy1 hbr0 hbr1
        go_wp2
        go_roundw
        case rel =>
          exact ⟨k + 1, L.set k S.toNat, C, by omega, by go_num, rfl, hC0, hC1, hr.setNum k _ _ og, hbw.setCell (Nat.le_refl _) _, by have := hsz.out; simpa [Hid, World.setCell] using this,
              by rw [List.length_set]; exact hrel.out.1, zec hrel.out.2.1 og, add_relW hkL.out hx.out hy.out hs.out hS0 hrel.out.2.2⟩
        case measure => simp [intOf]; omega
      · obtain ⟨S, C, hs, hS0, hS1, hC0, hC1, hadd⟩ := zfp x 0 br hx0 hx1 (by omega) (by omega) hbr0 hbr1
        go_wp2
        go_roundw
        case rel =>
          exact ⟨k + 1, L.set k S.toNat, C, by omega, by go_num, rfl, hC0, hC1, hr.setNum k _ _ og, hbw.setCell (Nat.le_refl _) _, by have := hsz.out; simpa [Hid, World.setCell] using this,
              by rw [List.length_set]; exact hrel.out.1, zec hrel.out.2.1 og, add_relW hkL.out hx.out (by rw [zbg hgb]; rfl) hs.out hS0 hrel.out.2.2⟩
        case measure => simp [intOf]; omega
    · obtain rfl : k = b.length := og
      obtain ⟨z, hz, hz0, hzc⟩ := hr.num (i := b.length) hkL.out
      have hzf := hr.frozen b.length
      have hr2 := hr.setNum b.length br.toNat br (by omega)
      have H1 : Hid (vw (L.set b.length br.toNat) = vw b + vw a ∧ (L.set b.length br.toNat).length = b.length + 1 ∧ Lw (L.set b.length br.toNat)) := by
        have h1 := zcu (x := br.toNat) hkL.out
        have h2 := hrel.out.2.2
        rw [zay (by rw [List.length_set, hrel.out.1]; omega)] at h1
        rw [zay (Nat.le_refl _), zay (l := a) (by omega)] at h2
        refine ⟨?_, by rw [List.length_set]; exact hrel.out.1, zec hrel.out.2.1 og⟩
        rw [h1]
        obtain ⟨m, rfl⟩ := Int.eq_ofNat_of_zero_le hbr0
        rw [Int.toNat_natCast, Nat.mul_comm]
        apply Int.ofNat_inj.1
        simp only [Int.natCast_add, Int.natCast_mul]
        exact h2
      have Hr2 := Lib.hid hr2
      have hbw2 := hbw'.setCell (p := ⟨G, b.length, none⟩) (by have := hG.out; subst this; exact Nat.le_refl _) (.int .u64 br)
      clear hrel hr hr2
      go_wp2_with fail
      generalize (wr.setCell ⟨G, b.length, none⟩ (.int .u64 br)) = w3 at *
      rw [← H1.out.2.1]
      refine (zen H1.out.2.2 (by rw [H1.out.2.1]; unfold maxLen; omega) Hr2.out).mono ?_
      rintro e w2 ⟨⟨v, rfl, hv⟩, rfl⟩
      go_wp2_with fail
      go_ret
      refine ⟨⟨_, rfl, ?_⟩, hbw2⟩
      rw [← H1.out.1]
      exact hv
theorem plus_nw {w : World} {va vb : Value} {x y z : Nat} (ha : IsW w va x) (hb : IsW w vb y) (hx : (wd x).length ≤ 4294967296) (hy : (wd y).length ≤ 4294967296) (hz : z = x + y) :
    Calls Tryz.prog 256 #[va, vb] w (RetW w z) := by
  obtain ⟨A, c, rfl, _, _, hA⟩ := ha.1
  obtain ⟨B, d, rfl, _, _, hB⟩ := hb.1
  rcases Nat.lt_or_ge (wd x).length (wd y).length with h | h
  · have h1 := plus_sw A B c d (wd x) (wd y) w _ _ _ _ (Nat.le_refl _) (Nat.le_refl _) (lw_wd x) (lw_wd y) hx hy h hA hB
    rw [zew, zew, Nat.add_comm, ← hz] at h1
    exact h1
  · have h1 := plus_le A B c d (wd x) (wd y) w _ _ _ _ (Nat.le_refl _) (Nat.le_refl _) (lw_wd x) (lw_wd y) hx hy h hA hB
    rw [zew, zew, ← hz] at h1
    exact h1
set_option maxHeartbeats 400000 in
theorem minus_list (A B : Option Addr) (c d : Nat) (a b : List Nat) (w : World) (lo hi lo' hi' : Nat) (hi1 : hi ≤ w.heap.size) (hi2 : hi' ≤ w.heap.size) (ha : Lw a) (hb : Lw b) (hal : a.length ≤ 4294967296) (hba : b.length ≤ a.length) (hle : vw b ≤ vw a)
    (hA : SV w lo hi A (cel .u64 a)) (hB : SV w lo' hi' B (cel .u64 b)) :
    Calls Tryz.prog 257 #[.slice A a.length c, .slice B b.length d] w (RetW w (vw a - vw b)) := by
  have Ha := Lib.hid ha; clear ha
  have Hb := Lib.hid hb; clear hb
  have Hle := Lib.hid hle; clear hle
  go_enter Tryz.func257, Tryz.ntmps257
  go_wp2_with (at_make; refine zdd elW rfl _ _ rfl a.length rfl rfl rfl rfl og ?_; intro G w1 hG hrow hb1 hz1)
  go_loopw [6, 15] (fun bw i wr => ∃ k : Nat, ∃ L : List Nat, ∃ br : Int, k ≤ a.length ∧ i = .int .i64 (k : Int) ∧ bw = .int .u64 br ∧ 0 ≤ br ∧ br ≤ 1 ∧ Row wr G 212 (cel .u64 L) ∧ Below G w wr ∧ Hid (wr.heap.size = G + 1) ∧
      Hid (L.length = a.length ∧ Lw L ∧ (vw (L.take k) : Int) = vw (a.take k) - vw (b.take k) + br * pq k)) (fun _ i _ => a.length - (intOf i).toNat)
  case atStart => exact ⟨0, _, 0, Nat.zero_le _, rfl, rfl, by omega, by omega, hrow, hb1, hz1, by simp, zcg _, by simp [vw]⟩
  case round =>
    obtain ⟨k, L, br, hk, rfl, rfl, hbr0, hbr1, hr, hbw, hsz, hrel⟩ := hrel
    have hbw' : Below w.heap.size w wr := by have := hG.out; subst this; exact hbw
    rcases Nat.lt_or_ge k a.length with hlt | hge
    · have hkL : Hid (k < L.length) := by rw [hrel.out.1]; exact hlt
      obtain ⟨ba, oa, rfl, _, _, hca⟩ := (hA.below hbw' hi1) (zap (j := k) hlt)
      obtain ⟨x, hx, hx0, hx1, hxc⟩ := zcm (j := k) Ha.out hca hlt
      clear hca
      obtain ⟨z, hz, hz0, hzc⟩ := hr.num (i := k) (oh hkL)
      have hzf := hr.frozen k
      rcases Nat.lt_or_ge k b.length with hlb | hgb
      · obtain ⟨bb, ob, rfl, _, _, hcb⟩ := (hB.below hbw' hi2) (zap (j := k) hlb)
        obtain ⟨y, hy, hy0, hy1, hyc⟩ := zcm (j := k) Hb.out hcb hlb
        clear hcb
        obtain ⟨S, C, hs, hS0, hS1, hC0, hC1, hsub⟩ := sub64_c x y br hx0 hx1 hy0 hy1 hbr0 hbr1
        go_wp2
        go_roundw
        case rel =>
          exact ⟨k + 1, L.set k S.toNat, C, by omega, by go_num, rfl, hC0, hC1, hr.setNum k _ _ og, hbw.setCell (Nat.le_refl _) _, by have := hsz.out; simpa [Hid, World.setCell] using this,
              by rw [List.length_set]; exact hrel.out.1, zec hrel.out.2.1 og, sub_relW hkL.out hx.out hy.out hs.out hS0 hrel.out.2.2⟩
        case measure => simp [intOf]; omega
      · obtain ⟨S, C, hs, hS0, hS1, hC0, hC1, hsub⟩ := sub64_c x 0 br hx0 hx1 (by omega) (by omega) hbr0 hbr1
        go_wp2
        go_roundw
        case rel =>
          exact ⟨k + 1, L.set k S.toNat, C, by omega, by go_num, rfl, hC0, hC1, hr.setNum k _ _ og, hbw.setCell (Nat.le_refl _) _, by have := hsz.out; simpa [Hid, World.setCell] using this,
              by rw [List.length_set]; exact hrel.out.1, zec hrel.out.2.1 og, sub_relW hkL.out hx.out (by rw [zbg hgb]; rfl) hs.out hS0 hrel.out.2.2⟩
        case measure => simp [intOf]; omega
    · obtain rfl : k = a.length := og
      have hLl := hrel.out.1
      have hv := sub_endW hLl rfl hba hrel.out.2.1 og Hle.out hrel.out.2.2
      have H1 : Hid (Row wr G 212 (cel .u64 L) ∧ vw L = vw a - vw b ∧ L.length = a.length ∧ Lw L) := ⟨hr, hv, hLl, hrel.out.2.1⟩
      clear hrel hv hr hLl
      go_wp2_with fail
      rw [← H1.out.2.2.1]
      refine (zen H1.out.2.2.2 (by rw [H1.out.2.2.1]; unfold maxLen; omega) H1.out.1).mono ?_
      rintro e w2 ⟨⟨v, rfl, hv⟩, rfl⟩
      go_wp2_with fail
      go_ret
      refine ⟨⟨_, rfl, ?_⟩, hbw'⟩
      rw [← H1.out.2.1]
      exact hv
theorem minus_nw {w : World} {va vb : Value} {x y z : Nat} (ha : IsW w va x) (hb : IsW w vb y) (hle : y ≤ x) (hx : (wd x).length ≤ 4294967296) (hz : z = x - y) :
    Calls Tryz.prog 257 #[va, vb] w (RetW w z) := by
  obtain ⟨A, c, rfl, _, _, hA⟩ := ha.1
  obtain ⟨B, d, rfl, _, _, hB⟩ := hb.1
  have h := minus_list A B c d (wd x) (wd y) w _ _ _ _ (Nat.le_refl _) (Nat.le_refl _) (lw_wd x) (lw_wd y) hx (wd_len_mono hle) (by rw [zew, zew]; exact hle) hA hB
  rw [zew, zew, ← hz] at h
  exact h
theorem mul_word {x y z cy H L S C S2 C2 : Int} (hm : x * y = H * 18446744073709551616 + L) (h1 : L + z + 0 = C * 18446744073709551616 + S) (h2 : S + cy + 0 = C2 * 18446744073709551616 + S2) :
    S2 = (x * y + z + cy) - (H + C + C2) * 18446744073709551616 := by omega
theorem mul_carry {x y z cy H L S C S2 C2 : Int} (hx0 : 0 ≤ x) (hx : x ≤ 18446744073709551615) (hy0 : 0 ≤ y) (hy : y ≤ 18446744073709551615) (hz : z ≤ 18446744073709551615) (hcy : cy ≤ 18446744073709551615) (hS : 0 ≤ S2)
    (hm : x * y = H * 18446744073709551616 + L) (h1 : L + z + 0 = C * 18446744073709551616 + S) (h2 : S + cy + 0 = C2 * 18446744073709551616 + S2) :
    H + C + C2 ≤ 18446744073709551615 := by
  have h3 := Int.mul_le_mul hx hy hy0 (by omega : (0 : Int) ≤ 18446744073709551615)
  omega
set_option maxHeartbeats 1000000 in
theorem timesw_list (A B : Option Addr) (c d : Nat) (a b : List Nat) (w : World) (lo hi lo' hi' : Nat) (hi1 : hi ≤ w.heap.size) (hi2 : hi' ≤ w.heap.size) (ha : Lw a) (hb : Lw b) (hal : a.length ≤ 4294967296) (hbl : b.length ≤ 4294967296) (ha0 : 0 < a.length) (hb0 : 0 < b.length) (ha1 : a ≠ [1]) (hb1' : b ≠ [1])
    (hA : SV w lo hi A (cel .u64 a)) (hB : SV w lo' hi' B (cel .u64 b)) :
    Calls Tryz.prog 214 #[.slice A a.length c, .slice B b.length d] w (RetW w (vw a * vw b)) := by
  have Ha := Lib.hid ha; clear ha
  have Hb := Lib.hid hb; clear hb
  have han : ((a.length : Int) == 0) = false := beq_eq_false_iff_ne.2 og
  have hbn : ((b.length : Int) == 0) = false := beq_eq_false_iff_ne.2 og
  have Hoa := Lib.hid (isOne_b A c a w lo hi (by unfold maxLen; omega) hA false (by simp [ha1]))
  have Hob := Lib.hid (isOne_b B d b w lo' hi' (by unfold maxLen; omega) hB false (by simp [hb1']))
  clear ha1 hb1'
  go_enter Tryz.func214, Tryz.ntmps214
  go_wp2_with fail
  refine Hoa.out.mono ?_
  rintro e w1 ⟨rfl, rfl⟩
  go_wp2_with fail
  refine Hob.out.mono ?_
  rintro e w1 ⟨rfl, rfl⟩
  go_wp2_with (at_make; refine zdd elW rfl _ _ rfl (a.length + b.length) rfl rfl rfl rfl og ?_; intro G w1 hG hrow hb1 hz1)
  go_loopw [36] (fun i wr => ∃ k : Nat, ∃ L : List Nat, k ≤ a.length ∧ i = .int .i64 (k : Int) ∧ Row wr G 212 (cel .u64 L) ∧ Below G w wr ∧ Hid (wr.heap.size = G + 1) ∧
      Hid (L.length = a.length + b.length ∧ Lw L ∧ (∀ j, k + b.length ≤ j → L.getD j 0 = 0) ∧ vw L = vw (a.take k) * vw b)) (fun i _ => a.length - (intOf i).toNat)
  case atStart => exact ⟨0, _, Nat.zero_le _, rfl, hrow, hb1, hz1, by simp, zcg _, fun j _ => by rw [List.getD_eq_getElem?_getD, List.getElem?_replicate]; split <;> rfl, by rw [vw_nil_take, Nat.zero_mul]; exact vw_zeros (fun x hx => (List.mem_replicate.1 hx).2)⟩
  case round =>
    obtain ⟨k, L, hk, rfl, hr, hbw, hsz, hrel⟩ := hrel
    have hbw' : Below w.heap.size w wr := by have := hG.out; subst this; exact hbw
    rcases Nat.lt_or_ge k a.length with hlt | hge
    · obtain ⟨ba, oa, rfl, _, _, hca⟩ := (hA.below hbw' hi1) (zap (j := k) hlt)
      obtain ⟨x, hx, hx0, hx1, hxc⟩ := zcm (j := k) Ha.out hca hlt
      clear hca
      have HR := hrel; clear hrel
      obtain ⟨wo, rfl⟩ : ∃ wo : World, wo = wr := ⟨_, rfl⟩
      go_wp2
      go_loopw [8, 43] (fun cr i wi => ∃ j : Nat, ∃ M : List Nat, ∃ cy : Int, j ≤ b.length ∧ i = .int .i64 (j : Int) ∧ cr = .int .u64 cy ∧ 0 ≤ cy ∧ cy ≤ 18446744073709551615 ∧ Row wi G 212 (cel .u64 M) ∧ Below G w wi ∧ Hid (wi.heap.size = G + 1) ∧
          Hid (M.length = a.length + b.length ∧ Lw M ∧ (∀ j, k + b.length ≤ j → M.getD j 0 = 0) ∧ (vw M : Int) + cy * pq (k + j) = vw L + x * pq k * vw (b.take j))) (fun _ i _ => b.length - (intOf i).toNat)
      case atStart => exact ⟨0, L, 0, Nat.zero_le _, rfl, rfl, by omega, by omega, hr, hbw, hsz, HR.out.1, HR.out.2.1, HR.out.2.2.1, by simp [vw]⟩
      case round =>
        clear hr hbw hbw' hsz hxc
        obtain ⟨j, M, cy, hj, rfl, rfl, hcy0, hcy1, hr, hbw, hsz, hrel⟩ := hrel
        have hbw' : Below w.heap.size w wr := by have := hG.out; subst this; exact hbw
        have hkM : Hid (k + b.length < M.length) := by rw [hrel.out.1]; unfold Hid; omega
        rcases Nat.lt_or_ge j b.length with hjl | hjg
        · obtain ⟨bb, ob, rfl, _, _, hcb⟩ := (hB.below hbw' hi2) (zap (j := j) hjl)
          obtain ⟨y, hy, hy0, hy1, hyc⟩ := zcm (j := j) Hb.out hcb hjl
          clear hcb
          obtain ⟨z, hz, hz0, hz1, hzc⟩ := hr.loW hrel.out.2.1 (i := k + j) (oh hkM)
          have hzf := hr.frozen (k + j)
          obtain ⟨H, L0, hm, hH0, hH1, hL0, hL1, hmul⟩ := mul64_at x y hx0 hx1 hy0 hy1
          obtain ⟨S, C, hs, hS0, hS1, hC0, hC1, hadd⟩ := zfp L0 z 0 hL0 hL1 hz0 hz1 (by omega) (by omega)
          obtain ⟨S2, C2, hs2, hS20, hS21, hC20, hC21, hadd2⟩ := zfp S cy 0 hS0 hS1 hcy0 hcy1 (by omega) (by omega)
          have hcar := mul_carry hx0 hx1 hy0 hy1 hz1 hcy1 hS20 hm.out hs.out hs2.out
          have Hw := Lib.hid (mul_word hm.out hs.out hs2.out)
          have hHC : 0 ≤ H + C := by omega
          have hHC1 : H + C ≤ 18446744073709551615 := by omega
          have Hmul := Lib.hid hmul
          clear hmul
          go_wp2_with (refine (Hmul.out _).mono ?_; rintro e w1 ⟨rfl, rfl⟩)
          go_roundw
          case rel =>
            exact ⟨j + 1, M.set (k + j) S2.toNat, H + C + C2, by omega, by go_num, rfl, by omega, by omega, hr.setNum (k + j) _ _ og, hbw.setCell (Nat.le_refl _) _,
              by have := hsz.out; simpa [Hid, World.setCell] using this, by rw [List.length_set]; exact hrel.out.1, zec hrel.out.2.1 og, fun i hi => by rw [getD_set_ne og]; exact hrel.out.2.2.1 i hi,
              mul_stepW (oh hkM) hy.out hz.out rfl Hw.out hS20 hrel.out.2.2.2⟩
          case measure => simp [intOf]; omega
        · obtain rfl : j = b.length := og
          obtain ⟨z, hz, hz0, hzc⟩ := hr.num (i := k + b.length) hkM.out
          have hzf := hr.frozen (k + b.length)
          go_wp2
          go_roundw
          case rel =>
            exact ⟨k + 1, M.set (k + b.length) cy.toNat, by omega, by go_num, hr.setNum (k + b.length) _ _ og, hbw.setCell (Nat.le_refl _) _,
              by have := hsz.out; simpa [Hid, World.setCell] using this, by rw [List.length_set]; exact hrel.out.1, zec hrel.out.2.1 og, fun i hi => by rw [getD_set_ne og]; exact hrel.out.2.2.1 i og,
              mul_rowW rfl hkM.out hx.out (hrel.out.2.2.1 _ (Nat.le_refl _)) hcy0 HR.out.2.2.2 hrel.out.2.2.2⟩
          case measure => simp [intOf]; omega
    · obtain rfl : k = a.length := og
      have H1 : Hid (Row wr G 212 (cel .u64 L) ∧ vw L = vw a * vw b ∧ L.length = a.length + b.length ∧ Lw L) := ⟨hr, by have := hrel.out.2.2.2; rw [zay (Nat.le_refl _)] at this; exact this, hrel.out.1, hrel.out.2.1⟩
      clear hr hrel
      go_wp2_with fail
      rw [← H1.out.2.2.1]
      refine (zen H1.out.2.2.2 (by rw [H1.out.2.2.1]; unfold maxLen; omega) H1.out.1).mono ?_
      rintro e w2 ⟨⟨v, rfl, hv⟩, rfl⟩
      go_wp2_with fail
      go_ret
      refine ⟨⟨_, rfl, ?_⟩, hbw'⟩
      rw [← H1.out.2.1]
      exact hv
theorem wd_eq_one {n : Nat} : wd n = [1] ↔ n = 1 := by rw [← wd_one]; exact ⟨fun h => wd_inj h, fun h => by rw [h]⟩
set_option maxHeartbeats 400000 in
theorem zds {w : World} {va vb : Value} {x y z : Nat} (ha : IsW w va x) (hb : IsW w vb y) (hx : (wd x).length ≤ 4294967296) (hy : (wd y).length ≤ 4294967296) (hz : z = x * y) :
    Calls Tryz.prog 214 #[va, vb] w (RetW w z) := by
  have Ha := Lib.hid ha
  have Hb := Lib.hid hb
  obtain ⟨A, c, rfl, _, _, hA⟩ := ha.1
  obtain ⟨B, d, rfl, _, _, hB⟩ := hb.1
  have Hz := Lib.hid hz
  clear hz
  by_cases hx0 : x = 0
  · have e0 : (((wd x).length : Int) == 0) = true := by rw [wd_nil_iff.2 hx0]; rfl
    have Hx := Lib.hid hx0
    clear hx0 hA hB
    go_enter Tryz.func214, Tryz.ntmps214
    go_wp2
    go_ret
    exact ⟨⟨_, rfl, by rw [Hz.out, Hx.out, Nat.zero_mul]; exact IsW.zero⟩, Below.refl _ _⟩
  have hx0' : 0 < (wd x).length := by have := @wd_nil_iff x; omega
  by_cases hy0 : y = 0
  · have e0 : (((wd x).length : Int) == 0) = false := beq_eq_false_iff_ne.2 og
    have e1 : (((wd y).length : Int) == 0) = true := by rw [wd_nil_iff.2 hy0]; rfl
    have Hy := Lib.hid hy0
    clear hx0 hx0' hy0 hA hB
    go_enter Tryz.func214, Tryz.ntmps214
    go_wp2
    go_ret
    exact ⟨⟨_, rfl, by rw [Hz.out, Hy.out, Nat.mul_zero]; exact IsW.zero⟩, Below.refl _ _⟩
  have hy0' : 0 < (wd y).length := by have := @wd_nil_iff y; omega
  by_cases hx1 : x = 1
  · have e0 : (((wd x).length : Int) == 0) = false := beq_eq_false_iff_ne.2 og
    have e1 : (((wd y).length : Int) == 0) = false := beq_eq_false_iff_ne.2 og
    have Hx := Lib.hid hx1
    clear hx0 hx0' hy0 hy0' hx1 hA hB
    go_enter Tryz.func214, Tryz.ntmps214
    go_wp2_with fail
    refine (zbw Ha.out true (by rw [Hx.out]; rfl)).mono ?_
    rintro e w1 ⟨rfl, rfl⟩
    go_wp2_with fail
    go_ret
    exact ⟨⟨_, rfl, by rw [Hz.out, Hx.out, Nat.one_mul]; exact Hb.out⟩, Below.refl _ _⟩
  by_cases hy1 : y = 1
  · have e0 : (((wd x).length : Int) == 0) = false := beq_eq_false_iff_ne.2 og
    have e1 : (((wd y).length : Int) == 0) = false := beq_eq_false_iff_ne.2 og
    have Hy := Lib.hid hy1
    have Hx := Lib.hid hx1
    clear hx0 hx0' hy0 hy0' hx1 hy1 hA hB
    go_enter Tryz.func214, Tryz.ntmps214
    go_wp2_with fail
    refine (zbw Ha.out false (by simp [Hx.out])).mono ?_
    rintro e w1 ⟨rfl, rfl⟩
    go_wp2_with fail
    refine (zbw Hb.out true (by rw [Hy.out]; rfl)).mono ?_
    rintro e w1 ⟨rfl, rfl⟩
    go_wp2_with fail
    go_ret
    exact ⟨⟨_, rfl, by rw [Hz.out, Hy.out, Nat.mul_one]; exact Ha.out⟩, Below.refl _ _⟩
  have h := timesw_list A B c d (wd x) (wd y) w _ _ _ _ (Nat.le_refl _) (Nat.le_refl _) (lw_wd x) (lw_wd y) hx hy hx0' hy0' (fun h => hx1 (wd_eq_one.1 h)) (fun h => hy1 (wd_eq_one.1 h)) hA hB
  rw [zew, zew, ← Hz.out] at h
  exact h
def D64 (d : Int) (G : Prop) : Prop := ∀ (h l : Int) (w : World), 0 ≤ h → h ≤ d - 1 → 0 ≤ l → l ≤ 18446744073709551615 → (h = 0 ∨ G) →
  Calls Tryz.prog 239 #[.int .u64 h, .int .u64 l, .int .u64 d] w fun e w' => e = .returned (.tuple #[.int .u64 ((h * 18446744073709551616 + l) / d), .int .u64 ((h * 18446744073709551616 + l) % d)]) ∧ Dr w w'
theorem ret_uu {a b c d : Int} (h : a = c) (h2 : b = d) : Ending.returned (.tuple #[.int .u64 a, .int .u64 b]) = .returned (.tuple #[.int .u64 c, .int .u64 d]) := by rw [h, h2]
set_option maxRecDepth 100000 in
set_option maxHeartbeats 1000000 in
theorem div64_z {d : Int} (hd : 1 ≤ d) (hd1 : d ≤ 18446744073709551615) : D64 d False := by
  intro h l w h0 h1 l0 l1 hG
  obtain rfl : h = 0 := by rcases hG with h | h; exact h; exact h.elim
  have e1 : (d == 0) = false := beq_eq_false_iff_ne.2 (by omega)
  have hq : IntKind.u64.wrap (l / d) = l / d := by
    have a1 : 0 ≤ l / d := Int.ediv_nonneg l0 (by omega)
    have a2 : l / d ≤ l := Int.ediv_le_self _ l0
    rw [IntKind.wrap_u64]; omega
  have hdn : ¬ d = 0 := by omega
  clear hG h0
  have Hd : Hid (1 ≤ d) := hd
  go_enter Tryz.func239, Tryz.ntmps239
  go_wp2
  go_quiet (fail)
  go_wp2
  go_ret2
  refine ⟨ret_uu ?_ ?_, Dr.refl w |>.drewN _⟩
  · simp
  · simp
theorem d64_bounds {r x b : Int} (hr0 : 0 ≤ r) (hr1 : r ≤ b - 1) (hx0 : 0 ≤ x) (hx1 : x ≤ 18446744073709551615) :
    0 ≤ (r * 18446744073709551616 + x) / b ∧ (r * 18446744073709551616 + x) / b ≤ 18446744073709551615 ∧ 0 ≤ (r * 18446744073709551616 + x) % b ∧ (r * 18446744073709551616 + x) % b ≤ b - 1 := by
  have hb : 0 < b := og
  refine ⟨Int.ediv_nonneg og og, ?_, Int.emod_nonneg _ og, ?_⟩
  · have := Int.ediv_lt_of_lt_mul (a := r * 18446744073709551616 + x) (b := 18446744073709551616) hb og
    omega
  · have := Int.emod_lt_of_pos (r * 18446744073709551616 + x) hb
    omega
def RetWU (w : World) (n : Nat) (r : Int) (e : Ending) (w' : World) : Prop := (∃ v, e = .returned (.tuple #[v, .int .u64 r]) ∧ IsW w' v n) ∧ Below w.heap.size w w'
set_option maxHeartbeats 400000 in
theorem divideWord_list (A : Option Addr) (c : Nat) (a : List Nat) (d : Int) (w : World) (lo hi : Nat) (hi1 : hi ≤ w.heap.size) (ha : Lw a) (hal : a.length ≤ 4294967296) (hd : 1 ≤ d) (hd1 : d ≤ 18446744073709551615) (G : Prop) (hG : G ∨ a.length ≤ 1) (hD : D64 d G)
    (hA : SV w lo hi A (cel .u64 a)) :
    Calls Tryz.prog 236 #[.slice A a.length c, .int .u64 d] w (RetWU w (vw a / d.toNat) ((vw a : Int) % d)) := by
  have Ha := Lib.hid ha; clear ha
  have HG := Lib.hid hG; clear hG
  have HD := Lib.hid hD; clear hD
  go_enter Tryz.func236, Tryz.ntmps236
  go_wp2_with (at_make; refine zdd elW rfl _ _ rfl a.length rfl rfl rfl rfl og ?_; intro G1 w1 hG1 hrow hb1 hz1)
  go_loopw [7, 8] (fun bw i wr => ∃ k : Nat, ∃ L : List Nat, ∃ r : Int, k ≤ a.length ∧ i = .int .i64 ((k : Int) - 1) ∧ bw = .int .u64 r ∧ 0 ≤ r ∧ r ≤ d - 1 ∧ Row wr G1 212 (cel .u64 L) ∧ Below G1 w wr ∧ Hid (wr.heap.size = G1 + 1) ∧
      Hid (L.length = a.length ∧ Lw L ∧ (k = a.length → r = 0) ∧ (vw (a.drop k) : Int) = vw (L.drop k) * d + r)) (fun _ i _ => (intOf i + 1).toNat)
  case atStart => exact ⟨a.length, _, 0, Nat.le_refl _, rfl, rfl, by omega, by omega, hrow, hb1, hz1, by simp, zcg _, fun _ => rfl, by simp [vw]⟩
  case round =>
    obtain ⟨k, L, r, hk, rfl, rfl, hr0, hr1, hr, hbw, hsz, hrel⟩ := hrel
    have hbw' : Below w.heap.size w wr := by have := hG1.out; subst this; exact hbw
    rcases k with _ | k
    · have h2 := hrel.out.2.2.2
      have H1 : Hid (Row wr G1 212 (cel .u64 L) ∧ vw L = vw a / d.toNat ∧ L.length = a.length ∧ Lw L ∧ r = (vw a : Int) % d) := by
        have h3 := short_endW (by omega) hr0 hr1 h2
        refine ⟨hr, h3.1, hrel.out.1, hrel.out.2.1, ?_⟩
        obtain ⟨n, rfl⟩ := Int.eq_ofNat_of_zero_le hr0
        obtain ⟨m, rfl⟩ := Int.eq_ofNat_of_zero_le (by omega : 0 ≤ d)
        simp only [Int.toNat_natCast] at h3
        rw [h3.2]
        simp
      clear hr hrel h2
      go_wp2_with fail
      rw [← H1.out.2.2.1]
      refine (zen H1.out.2.2.2.1 (by rw [H1.out.2.2.1]; unfold maxLen; omega) H1.out.1).mono ?_
      rintro e w2 ⟨⟨v, rfl, hv⟩, rfl⟩
      go_wp2_with fail
      go_ret2
      refine ⟨⟨v, ?_, ?_⟩, hbw'⟩
      · rw [H1.out.2.2.2.2]; rfl
      · rw [← H1.out.2.1]; exact hv
    · have hkL : Hid (k < L.length) := by rw [hrel.out.1]; unfold Hid; omega
      obtain ⟨ba, oa, rfl, _, _, hca⟩ := (hA.below hbw' hi1) (zap (j := k) hk)
      obtain ⟨x, hx, hx0, hx1, hxc⟩ := zcm (j := k) Ha.out hca og
      clear hca
      obtain ⟨z, hz, hz0, hzc⟩ := hr.num (i := k) (oh hkL)
      have hzf := hr.frozen k
      have hor : r = 0 ∨ G := by
        rcases HG.out with h | h
        · exact .inr h
        · exact .inl (hrel.out.2.2.1 (by omega))
      have hdiv := Lib.hid (HD.out r x wr hr0 hr1 hx0 hx1 hor)
      obtain ⟨q0, q1, m0, m1⟩ := d64_bounds hr0 hr1 hx0 hx1
      have hst := Lib.hid (short_stepW (by omega) hrel.out.1 hx.out q0 hrel.out.2.2.2)
      obtain ⟨q, hq⟩ : ∃ q, q = (r * 18446744073709551616 + x) / d := ⟨_, rfl⟩
      obtain ⟨m, hm⟩ : ∃ m, m = (r * 18446744073709551616 + x) % d := ⟨_, rfl⟩
      rw [← hq] at q0 q1 hst hdiv
      rw [← hm] at m0 m1 hst hdiv
      clear hq hm hor
      rw [show (((k + 1 : Nat) : Int) - 1) = (k : Int) from by omega]
      go_wp2_with fail
      refine hdiv.out.mono ?_
      rintro e w1 ⟨rfl, ⟨nd, rfl⟩⟩
      go_wp2
      go_roundw
      case rel =>
        refine ⟨k, L.set k q.toNat, m, by omega, by go_num, rfl, m0, m1, (hr.drewN nd).setNum k _ _ og, (below_drewN hbw nd).setCell (Nat.le_refl _) _, by have := hsz.out; simpa [Hid, World.setCell] using this,
              by rw [List.length_set]; exact hrel.out.1, zec hrel.out.2.1 og, fun h => by omega, hst.out⟩
      case measure => simp [intOf]
theorem zdw {w : World} {va : Value} {x d : Nat} (ha : IsW w va x) (hx : x < 18446744073709551616) (hd : d ≠ 0) (hd1 : d < 18446744073709551616) :
    Calls Tryz.prog 236 #[va, .int .u64 (d : Int)] w (RetWU w (x / d) ((x % d : Nat) : Int)) := by
  obtain ⟨A, c, rfl, _, _, hA⟩ := ha.1
  have hl : (wd x).length ≤ 1 := wd_len_le.2 (by rw [pq_one]; exact hx)
  have h := divideWord_list A c (wd x) d w _ _ (Nat.le_refl _) (lw_wd x) (by omega) (by omega) (by omega) False (.inr hl) (div64_z (by omega) (by omega)) hA
  rw [zew, Int.toNat_natCast] at h
  exact h
end Go.Proofs.YtijjjbgnpfjpmaaGreatDoor
