/-
  The contract of the law's helper awake: it returns true.
-/
import Derived.Test.YtbeocfiimminiaaDoorNatD
import Derived.Deep.DeepFit
namespace Go.Proofs.YtbeocfiimminiaaDoor
open Go.RowKit
set_option linter.unusedVariables false

theorem lim_lit {l : List Nat} {n : Nat} (h1 : Lo l) (h2 : l.getLastD 1 ≠ 0) (h3 : val l = n) : lim n = l := by rw [← h3, lim_val_of h1 h2]

/-- A literal list in a new block. -/
theorem lit_new (w : World) (t : TypeId) (l : List Nat) (cs : Array Value) (n : Nat) (h : cs = (cel .u32 l).toArray) (hn : n = l.length) (hm : l.length ≤ maxLen) :
    IsL .u32 (w.alloc (.cells cs t)) w.heap.size (w.heap.size + 1) (.slice (some ⟨w.heap.size, 0, none⟩) n n) l := by
  subst h
  subst hn
  exact isL_new .u32 w t l hm

theorem lit_a : lim 12345678901 = [345678901, 12] := lim_lit (by intro x hx; simp at hx; omega) (by decide) (by decide)
theorem lit_b : lim 999999999 = [999999999] := lim_lit (by intro x hx; simp at hx; omega) (by decide) (by decide)
theorem lit_c : lim (999999999 * 999999999) = [1, 999999998] := lim_lit (by intro x hx; simp at hx; omega) (by decide) (by decide)
theorem lit_d : lim 1000000000000000000 = [0, 0, 1] := lim_lit (by intro x hx; simp at hx; omega) (by decide) (by decide)
theorem lit_e : lim 7 = [7] := lim_lit (by intro x hx; simp at hx; omega) (by decide) (by decide)
theorem lit_q : lim (1000000000000000000 / 7) = [857142857, 142857142] := lim_lit (by intro x hx; simp at hx; omega) (by decide) (by decide)
theorem lit_r : lim (1000000000000000000 % 7) = [1] := lim_lit (by intro x hx; simp at hx; omega) (by decide) (by decide)

/-- What reads in a world reads in a later one. -/
theorem IsL.next {k : IntKind} {w w' : World} {v : Value} {l : List Nat} {lo : Nat} (h : IsL k w lo w.heap.size v l) (hb : Below w.heap.size w w') : IsL k w' 0 w'.heap.size v l :=
  (h.below hb (Nat.le_refl _)).wide (Nat.zero_le _) hb.size
theorem IsN.next {w w' : World} {v : Value} {n : Nat} {lo : Nat} (h : IsN w lo w.heap.size v n) (hb : Below w.heap.size w w') : IsN w' 0 w'.heap.size v n := IsL.next h hb
theorem IsL.more {k : IntKind} {w : World} {v : Value} {l : List Nat} {lo : Nat} (h : IsL k w lo w.heap.size v l) (o : Obj) : IsL k (w.alloc o) 0 (w.alloc o).heap.size v l :=
  h.next ((Below.refl _ _).alloc (Nat.le_refl _) o)
theorem IsN.more {w : World} {v : Value} {n : Nat} {lo : Nat} (h : IsN w lo w.heap.size v n) (o : Obj) : IsN (w.alloc o) 0 (w.alloc o).heap.size v n := IsL.more h o
theorem lit_n (w : World) (t : TypeId) {x : Nat} {l : List Nat} (hx : lim x = l) (cs : Array Value) (n : Nat) (h : cs = (cel .u32 l).toArray) (hn : n = l.length) (hm : l.length ≤ maxLen) :
    IsN (w.alloc (.cells cs t)) 0 (w.alloc (.cells cs t)).heap.size (.slice (some ⟨w.heap.size, 0, none⟩) n n) x := by
  unfold IsN
  rw [hx]
  exact (lit_new w t l cs n h hn hm).wide (Nat.zero_le _) (by simp)
theorem lit_l (w : World) (t : TypeId) {l : List Nat} (cs : Array Value) (n : Nat) (h : cs = (cel .u32 l).toArray) (hn : n = l.length) (hm : l.length ≤ maxLen) :
    IsL .u32 (w.alloc (.cells cs t)) 0 (w.alloc (.cells cs t)).heap.size (.slice (some ⟨w.heap.size, 0, none⟩) n n) l :=
  (lit_new w t l cs n h hn hm).wide (Nat.zero_le _) (by simp)
/-- A step on: a call that keeps what there was. -/
theorem below_step {w w1 w2 : World} (h : Below w.heap.size w w1) (hb : Below w1.heap.size w1 w2) : Below w.heap.size w w2 := h.trans (hb.mono h.size)
theorem below_stepA {w w1 : World} (h : Below w.heap.size w w1) (o : Obj) : Below w.heap.size w (w1.alloc o) := h.alloc h.size o
theorem below_stepD {w w1 w2 : World} (h : Below w.heap.size w w1) (hd : Dr w1 w2) : Below w.heap.size w w2 := h.trans (hd.below _)

set_option maxRecDepth 100000 in
set_option maxHeartbeats 1000000 in
theorem awake_true (w : World) :
    Calls Tryd.prog 9 #[] w fun e w' => e = .returned (.bool true) ∧ Below w.heap.size w w' := by
  go_enter Tryd.func9, Tryd.ntmps9
  go_wp2_with fail
  refine (nof_pos w 12345678901 (by omega) (by omega)).mono ?_
  rintro e w1 ⟨⟨v1, rfl, hv1⟩, hb1⟩
  have Hv1 := Lib.hid hv1
  clear hv1
  go_wp2_with fail
  have hA := lit_n w1 34 lit_b #[.int .u32 999999999] 1 (by simp [cel]) rfl (by simp [maxLen])
  have hB := lit_n (w1.alloc (.cells #[.int .u32 999999999] 34)) 34 lit_b #[.int .u32 999999999] 1 (by simp [cel]) rfl (by simp [maxLen])
  simp only [World.size_alloc] at hB
  refine (nmul_ok (hA.more _) hB (Nat.le_refl _) (by simp only [World.size_alloc]; omega) (by rw [lit_b]; decide) (by rw [lit_b]; decide)).mono ?_
  clear hA hB
  rintro e w2 ⟨⟨v2, rfl, hv2⟩, hb2⟩
  rw [if_pos (by rw [lit_c]; decide)] at hv2
  rw [if_pos (by rw [lit_c]; decide)]
  have Hv1b := Lib.hid (((Hv1.out.more _).more _).next hb2)
  have Hv2 := Lib.hid hv2
  have hbb2 := below_step (below_stepA (below_stepA hb1 _) _) hb2
  clear hv2 hb2 hb1 Hv1
  go_wp2_with fail
  have hA := lit_n w2 34 lit_d #[.int .u32 0, .int .u32 0, .int .u32 1] 3 (by simp [cel]) rfl (by simp [maxLen])
  have hB := lit_n (w2.alloc (.cells #[.int .u32 0, .int .u32 0, .int .u32 1] 34)) 34 lit_e #[.int .u32 7] 1 (by simp [cel]) rfl (by simp [maxLen])
  simp only [World.size_alloc] at hB
  refine (ndiv_ok (hA.more _) hB (Nat.le_refl _) (by simp only [World.size_alloc]; omega) (by rw [lit_d]; decide) (by rw [lit_e]; decide) (by omega)).mono ?_
  clear hA hB
  rintro e w3 ⟨⟨q3, r3, rfl, hq3, hr3⟩, hb3⟩
  have Hv1c := Lib.hid (((Hv1b.out.more _).more _).next hb3)
  have Hv2c := Lib.hid (((Hv2.out.more _).more _).next hb3)
  have Hq := Lib.hid (IsN.wide (lo' := 0) hq3 (Nat.zero_le _) (Nat.le_refl _))
  have Hr := Lib.hid (IsN.wide (lo' := 0) hr3 (Nat.zero_le _) (Nat.le_refl _))
  have hbb3 := below_step (below_stepA (below_stepA hbb2 _) _) hb3
  clear hq3 hr3 hb3 hbb2 Hv1b Hv2
  go_wp2_with fail
  have hL := lit_l w3 34 (l := [345678901, 12]) #[.int .u32 345678901, .int .u32 12] 2 (by simp [cel]) rfl (by simp [maxLen])
  have hX := Hv1c.out.more (.cells #[.int .u32 345678901, .int .u32 12] 34)
  unfold IsN at hX
  rw [show Int.toNat 12345678901 = 12345678901 from rfl] at hX
  rw [lit_a] at hX
  refine (is_ok hX hL).mono ?_
  clear hX hL
  rw [decide_eq_true rfl]
  rintro e w4 ⟨rfl, hd0⟩
  have Hv2cx0 := Lib.hid ((Hv2c.out.more (.cells #[.int .u32 345678901, .int .u32 12] 34)).next (hd0.below _))
  clear Hv2c
  have Hqx0 := Lib.hid ((Hq.out.more (.cells #[.int .u32 345678901, .int .u32 12] 34)).next (hd0.below _))
  clear Hq
  have Hrx0 := Lib.hid ((Hr.out.more (.cells #[.int .u32 345678901, .int .u32 12] 34)).next (hd0.below _))
  clear Hr
  have hbc0 := below_stepD (below_stepA hbb3 (.cells #[.int .u32 345678901, .int .u32 12] 34)) hd0
  clear hbb3 hd0 Hv1c
  go_wp2_with fail
  have hL := lit_l w4 34 (l := [1, 999999998]) #[.int .u32 1, .int .u32 999999998] 2 (by simp [cel]) rfl (by simp [maxLen])
  have hX := Hv2cx0.out.more (.cells #[.int .u32 1, .int .u32 999999998] 34)
  unfold IsN at hX
  rw [lit_c] at hX
  refine (is_ok hX hL).mono ?_
  clear hX hL
  rw [decide_eq_true rfl]
  rintro e w5 ⟨rfl, hd1⟩
  have Hqx0x1 := Lib.hid ((Hqx0.out.more (.cells #[.int .u32 1, .int .u32 999999998] 34)).next (hd1.below _))
  clear Hqx0
  have Hrx0x1 := Lib.hid ((Hrx0.out.more (.cells #[.int .u32 1, .int .u32 999999998] 34)).next (hd1.below _))
  clear Hrx0
  have hbc1 := below_stepD (below_stepA hbc0 (.cells #[.int .u32 1, .int .u32 999999998] 34)) hd1
  clear hbc0 hd1 Hv2cx0
  go_wp2_with fail
  have hL := lit_l w5 34 (l := [857142857, 142857142]) #[.int .u32 857142857, .int .u32 142857142] 2 (by simp [cel]) rfl (by simp [maxLen])
  have hX := Hqx0x1.out.more (.cells #[.int .u32 857142857, .int .u32 142857142] 34)
  unfold IsN at hX
  rw [lit_q] at hX
  refine (is_ok hX hL).mono ?_
  clear hX hL
  rw [decide_eq_true rfl]
  rintro e w6 ⟨rfl, hd2⟩
  have Hrx0x1x2 := Lib.hid ((Hrx0x1.out.more (.cells #[.int .u32 857142857, .int .u32 142857142] 34)).next (hd2.below _))
  clear Hrx0x1
  have hbc2 := below_stepD (below_stepA hbc1 (.cells #[.int .u32 857142857, .int .u32 142857142] 34)) hd2
  clear hbc1 hd2 Hqx0x1
  go_wp2_with fail
  have hL := lit_l w6 34 (l := [1]) #[.int .u32 1] 1 (by simp [cel]) rfl (by simp [maxLen])
  have hX := Hrx0x1x2.out.more (.cells #[.int .u32 1] 34)
  unfold IsN at hX
  rw [lit_r] at hX
  refine (is_ok hX hL).mono ?_
  clear hX hL
  rw [decide_eq_true rfl]
  rintro e w7 ⟨rfl, hd3⟩
  have hbc3 := below_stepD (below_stepA hbc2 (.cells #[.int .u32 1] 34)) hd3
  clear hbc2 hd3 Hrx0x1x2
  go_wp2_with fail
  go_ret
  exact ⟨rfl, hbc3⟩
end Go.Proofs.YtbeocfiimminiaaDoor
