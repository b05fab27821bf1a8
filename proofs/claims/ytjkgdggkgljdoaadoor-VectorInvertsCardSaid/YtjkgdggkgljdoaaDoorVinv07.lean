/-
  Contracts of the verifier's kit: Gcd, NatOf, RatOf.
-/
import Derived.Test.YtjkgdggkgljdoaaDoorVinv02
import Derived.Test.YtjkgdggkgljdoaaDoorVinv04
import Derived.Test.YtjkgdggkgljdoaaDoorVinv06
import Derived.StillTailTactics
import Derived.OrdersIn
import Derived.TacticsIn
import Derived.RangeFuncNested
import Derived.RangeFuncBox
import Derived.RangeFuncBound
import Derived.RangeFuncCalls
import Derived.RangeFuncLeaves
import Derived.Shelf.Abstract
import Derived.Shelf.RegionOpen
import Derived.WalkKit
import Derived.OwnWalkIn
import Derived.TacticsInMore
import Derived.LoopNIn
import Derived.LoopIn
import Derived.Maps.AppendAt
import Derived.Laws.EntriesVeiled
namespace Go.Proofs.YtjkgdggkgljdoaaDoor
open Go.RowKit
set_option linter.unusedVariables false
theorem tmod_nat (m n : Nat) : Int.tmod (m : Int) (n : Int) = ((m % n : Nat) : Int) := rfl
set_option maxRecDepth 100000 in
set_option maxHeartbeats 1000000 in
theorem gcd_i {w : World} {a b : Nat} (ha : a ≤ 4611686018427387904) (hb : b ≤ 4611686018427387904) :
    Calls Tryd.prog 63 #[.int .i64 (a : Int), .int .i64 (b : Int)] w fun e w' => e = .returned (.int .i64 ((Nat.gcd a b : Nat) : Int)) ∧ Dr w w' := by
  go_enter Tryd.func63, Tryd.ntmps63
  go_wp2_with fail
  go_loopw [0, 1] (fun x y wr => ∃ m n : Nat, x = .int .i64 (m : Int) ∧ y = .int .i64 (n : Int) ∧ Hid (Nat.gcd m n = Nat.gcd a b) ∧ m ≤ 4611686018427387904 ∧ n ≤ 4611686018427387904 ∧ Dr w wr) (fun _ y _ => (intOf y).toNat)
  case atStart => exact ⟨a, b, rfl, rfl, rfl, ha, hb, Dr.refl _⟩
  case round =>
    obtain ⟨m, n, rfl, rfl, hg, hm, hn, ⟨k, rfl⟩⟩ := hrel
    rcases Nat.eq_zero_or_pos n with hn0 | hn0
    · have Hg : Hid (m = Nat.gcd a b) := by rw [Hid, ← hg.out, hn0, Nat.gcd_zero_right]
      have b1 : ((n : Int) != 0) = false := by rw [hn0]; rfl
      have hmax : max (m : Int) (-(m : Int)) = (m : Int) := by omega
      subst hn0
      go_wp2_with fail
      go_ret
      exact ⟨by show Ending.returned (.int .i64 _) = _; rw [← Hg.out], ⟨k, rfl⟩⟩
    · have b1 : ((n : Int) != 0) = true := bne_iff_ne.2 (by omega)
      have b2 : (n : Int) ≠ 0 := by omega
      have ht := tmod_nat m n
      have hlt : m % n < n := Nat.mod_lt _ hn0
      go_wp2_with fail
      go_quiet (fail)
      go_wp2_with fail
      have em : (m : Int) % (n : Int) = ((m % n : Nat) : Int) := rfl
      go_roundw
      case rel => exact ⟨n, m % n, rfl, by rw [em], by rw [Hid, Nat.gcd_comm, ← Nat.gcd_rec, Nat.gcd_comm]; exact hg.out, hn, by omega, ⟨k + nq, by simp [World.drewN, Nat.add_assoc]⟩⟩
      case measure => rw [em]; simp [intOf]; omega
theorem lim_step {n : Nat} (h : n ≠ 0) : lim n = (n % 1000000000) :: lim (n / 1000000000) := zeo h
set_option maxRecDepth 100000 in
set_option maxHeartbeats 1000000 in
theorem natof_n {w : World} {n : Nat} (hn : n ≤ 4611686018427387904) :
    Calls Tryd.prog 64 #[.int .i64 (n : Int)] w fun e w' => (∃ v, e = .returned v ∧ IsN w' w.heap.size w'.heap.size v n) ∧ Below w.heap.size w w' := by
  have Hn3 : Hid ((lim n).length ≤ 3) := lim_len_le.2 (by have : pw 3 = 1000000000000000000000000000 := rfl; omega)
  go_enter Tryd.func64, Tryd.ntmps64
  go_wp2_with fail
  go_loopw [0, 3] (fun x v wr => ∃ (m : Nat) (l : List Nat), x = .int .i64 (m : Int) ∧ m ≤ 4611686018427387904 ∧ Own wr w.heap.size 94 v (cel .u32 l) ∧ Below w.heap.size w wr ∧ Hid (lim n = l ++ lim m)) (fun x _ _ => (intOf x).toNat)
  case atStart => exact ⟨n, [], rfl, hn, Own.nil _ _ _, Below.refl _ _, rfl⟩
  case round =>
    obtain ⟨m, l, rfl, hm, hown, hb, hl⟩ := hrel
    rcases Nat.eq_zero_or_pos m with h0 | h0
    · have Hl : Hid (lim n = l) := by rw [Hid, hl.out, h0, zbd, List.append_nil]
      have b1 : ¬ ((m : Int) > 0) := by omega
      subst h0
      have hb' := hb
      go_wp2_with fail
      go_ret
      refine ⟨⟨_, rfl, ?_⟩, hb⟩
      have h1 := hown.isL
      rw [← Hl.out] at h1
      exact h1
    · have b1 : (m : Int) > 0 := by omega
      have et : Int.tmod (m : Int) 1000000000 = ((m % 1000000000 : Nat) : Int) := rfl
      have ed : Int.tdiv (m : Int) 1000000000 = ((m / 1000000000 : Nat) : Int) := rfl
      have hlt : m % 1000000000 < 1000000000 := Nat.mod_lt _ (by omega)
      have hln : Hid ((cel .u32 l).length ≤ 100) := by rw [Hid, zbo]; have := congrArg List.length hl.out; rw [List.length_append] at this; have := Hn3.out; omega
      have hbw : w.heap.size ≤ wr.heap.size := hb.size
      go_wp2_with (at_builtin; refine zco elN rfl _ _ rfl rfl hown rfl rfl (by have := hln.out; omega) hbw ?_; intro v1 w1 hown1 hbw1 hz1)
      have ed2 : (m : Int) / 1000000000 = ((m / 1000000000 : Nat) : Int) := rfl
      rw [zbw .u32 l (m % 1000000000) _ (by omega)] at hown1
      go_roundw
      case rel => exact ⟨m / 1000000000, l ++ [m % 1000000000], by rw [ed2], by omega, hown1, hb.trans hbw1, by rw [Hid, hl.out, lim_step (by omega)]; simp⟩
      case measure => rw [ed2]; simp [intOf]; omega
def zdj (a : Int) (b : Nat) : Rat := mkRat a b
theorem quot_sz {a : Int} {b : Nat} (ha : a.natAbs ≤ 4611686018427387904) (hb : b ≤ 4611686018427387904) (h0 : b ≠ 0) : Sz (zdj a b) 3 := by
  have h3 : pw 3 = 1000000000000000000000000000 := rfl
  exact sz_of_mk h0 (lim_len_le.2 (by omega)) (lim_len_le.2 (by omega))
theorem quot_raw {neg : Bool} {n d g : Nat} (hd : d ≠ 0) (hg : g = Nat.gcd n d) (hn : n = 0 → neg = false) : raw (zdj (sg neg n) d) = ⟨neg, lim (n / g), lim (d / g)⟩ := by
  unfold zdj
  subst hg
  rcases Nat.eq_zero_or_pos n with h | h
  · subst h
    rw [sg_zero, Rat.zero_mkRat, raw_zero, Nat.zero_div, Nat.gcd_zero_left, Nat.div_self (by omega), zbd, zde, hn rfl]
  · exact raw_ratio (by omega) hd
set_option maxRecDepth 100000 in
set_option maxHeartbeats 2000000 in
theorem ratof_q {w : World} {a : Int} {b : Nat} (ha : a.natAbs ≤ 4611686018427387904) (hb : b ≤ 4611686018427387904) (h0 : b ≠ 0) :
    Calls Tryd.prog 21 #[.int .i64 a, .int .i64 (b : Int)] w (RetQ w (zdj a b)) := by
  obtain ⟨n, hn⟩ : ∃ n, n = a.natAbs := ⟨_, rfl⟩
  obtain ⟨g, hg⟩ : ∃ g, g = Nat.gcd n b := ⟨_, rfl⟩
  have g0 : 0 < g := by rw [hg]; exact Nat.gcd_pos_of_pos_right _ (by omega)
  have hgn : n / g ≤ n := Nat.div_le_self _ _
  have hgb : b / g ≤ b := Nat.div_le_self _ _
  have Hg := Lib.hid hg
  have Hb0 := Lib.hid h0
  obtain ⟨w0, hw0, hb0, rZ, Hz⟩ := zcf w #[.bool false, .slice none 0 0, .slice none 0 0] 50
  have RZ := Lib.hid rZ
  have HB0 := Lib.hid hb0
  clear rZ hb0
  rcases (by omega : a < 0 ∨ 0 ≤ a) with hneg | hpos
  · have ea : a = -(n : Int) := by omega
    have hn0 : 0 < n := by omega
    have hdv : g ∣ n := by rw [hg]; exact Nat.gcd_dvd_left _ _
    have hq0 : 0 < n / g := Nat.div_pos (Nat.le_of_dvd hn0 hdv) g0
    have Hr : Hid (raw (zdj a b) = ⟨true, lim (n / g), lim (b / g)⟩) := by rw [Hid, ea]; exact quot_raw (neg := true) h0 hg (fun h => by omega)
    rw [ea] at Hr ⊢
    have hmax : max (-(n : Int)) (n : Int) = (n : Int) := by omega
    have e1 : Int.tdiv (-(n : Int)) (g : Int) = -((n / g : Nat) : Int) := by rw [Int.neg_tdiv]; rfl
    have e1b : -((n / g : Nat) : Int) < 0 := by have : (0 : Int) < ((n / g : Nat) : Int) := Int.natCast_pos.2 hq0; exact Int.neg_neg_of_pos this
    have b2 : (g : Int) ≠ 0 := by omega
    have e2w : wrap64 ((b : Int) / (g : Int)) = ((b / g : Nat) : Int) := by rw [show (b : Int) / (g : Int) = ((b / g : Nat) : Int) from rfl]; (generalize b / g = q at hgb ⊢; unfold wrap64; omega)
    have hn9 : n ≤ 4611686018427387904 := by omega
    clear hg h0 hn ha ea hneg hdv
    go_enter Tryd.func21, Tryd.ntmps21
    go_wp2_with fail
    clear hw0
    refine (gcd_i (a := n) (b := b) hn9 hb).mono ?_
    rw [← Hg.out]
    rintro e w1 ⟨rfl, hd⟩
    have hb1 := hd.below w0.heap.size
    have HB1 := Lib.hid (zaa HB0.out hb1)
    have HS1 := Lib.hid hb1.size
    have RZ1 := Lib.hid (RZ.out.next hb1)
    clear hd hb1
    go_wp2_with fail
    go_quiet (fail)
    go_wp2_with fail
    rw [show (n : Int) / (g : Int) = ((n / g : Nat) : Int) from rfl]
    refine (natof_n (n := n / g) (by omega)).mono ?_
    rintro e w2 ⟨⟨v2, rfl, hv2⟩, hb2⟩
    have hb2' := zaa (Dr.below (⟨nq, rfl⟩ : Dr w1 (w1.drewN nq)) w1.heap.size) hb2
    have HB2 := Lib.hid (zaa HB1.out hb2')
    have RZ2 := Lib.hid (RZ1.out.next hb2')
    have V2 := Lib.hid (IsK.stb.le (isN_new hv2) (m := w.heap.size + 1) (by have h1 := Hz.out; have h2 := HB1.out.size; have h3 := HS1.out; show _ ≤ w1.heap.size; omega))
    obtain ⟨P2, k2, rfl, _, _, _⟩ := id hv2
    clear hv2 hb2 hb2'
    go_wp2_with fail
    (try rw [e2w])
    refine (natof_n (n := b / g) (by omega)).mono ?_
    rintro e w3 ⟨⟨v3, rfl, hv3⟩, hb3⟩
    have HB3 := Lib.hid (zaa HB2.out hb3)
    have RZ3 := Lib.hid (RZ2.out.next hb3)
    have V3 := Lib.hid (IsK.stb.le (isN_new hv3) (m := w.heap.size + 1) (by have h1 := RZ2.out.lt; omega))
    have V23 := Lib.hid (IsK.stb.fresh V2.out hb3)
    obtain ⟨P3, k3, rfl, _, _, _⟩ := id hv3
    obtain ⟨d0, d1, d2⟩ := zad RZ3.out
    obtain ⟨f0, f1, f2⟩ := zaq RZ3.out
    clear hv3 hb3
    go_wp2_with fail
    exact zbc Tryd.results21 rfl rfl (Row.put3 RZ3.out _ _ _) (retQ Hr.out HB3.out (Nat.le_refl _) V23.out V3.out (by omega) (by omega))
  · have ea : a = (n : Int) := by omega
    have Hr : Hid (raw (zdj a b) = ⟨false, lim (n / g), lim (b / g)⟩) := by rw [Hid, ea]; exact quot_raw (neg := false) h0 hg (fun _ => rfl)
    subst ea
    have hmax : max (n : Int) (-(n : Int)) = (n : Int) := by omega
    have b1 : ¬ ((n / g : Nat) : Int) < 0 := Int.not_lt.2 (Int.natCast_nonneg _)
    have b2 : (g : Int) ≠ 0 := by omega
    have e2w : wrap64 ((b : Int) / (g : Int)) = ((b / g : Nat) : Int) := by rw [show (b : Int) / (g : Int) = ((b / g : Nat) : Int) from rfl]; (generalize b / g = q at hgb ⊢; unfold wrap64; omega)
    have hn9 : n ≤ 4611686018427387904 := by omega
    clear hg h0 hn ha
    go_enter Tryd.func21, Tryd.ntmps21
    go_wp2_with fail
    clear hw0
    refine (gcd_i (a := n) (b := b) hn9 hb).mono ?_
    rw [← Hg.out]
    rintro e w1 ⟨rfl, hd⟩
    have hb1 := hd.below w0.heap.size
    have HB1 := Lib.hid (zaa HB0.out hb1)
    have HS1 := Lib.hid hb1.size
    have RZ1 := Lib.hid (RZ.out.next hb1)
    clear hd hb1
    go_wp2_with fail
    go_quiet (fail)
    go_wp2_with fail
    rw [show (n : Int) / (g : Int) = ((n / g : Nat) : Int) from rfl]
    refine (natof_n (n := n / g) (by omega)).mono ?_
    rintro e w2 ⟨⟨v2, rfl, hv2⟩, hb2⟩
    have hb2' := zaa (Dr.below (⟨nq, rfl⟩ : Dr w1 (w1.drewN nq)) w1.heap.size) hb2
    have HB2 := Lib.hid (zaa HB1.out hb2')
    have RZ2 := Lib.hid (RZ1.out.next hb2')
    have V2 := Lib.hid (IsK.stb.le (isN_new hv2) (m := w.heap.size + 1) (by have h1 := Hz.out; have h2 := HB1.out.size; have h3 := HS1.out; show _ ≤ w1.heap.size; omega))
    obtain ⟨P2, k2, rfl, _, _, _⟩ := id hv2
    clear hv2 hb2 hb2'
    go_wp2_with fail
    (try rw [e2w])
    refine (natof_n (n := b / g) (by omega)).mono ?_
    rintro e w3 ⟨⟨v3, rfl, hv3⟩, hb3⟩
    have HB3 := Lib.hid (zaa HB2.out hb3)
    have RZ3 := Lib.hid (RZ2.out.next hb3)
    have V3 := Lib.hid (IsK.stb.le (isN_new hv3) (m := w.heap.size + 1) (by have h1 := RZ2.out.lt; omega))
    have V23 := Lib.hid (IsK.stb.fresh V2.out hb3)
    obtain ⟨P3, k3, rfl, _, _, _⟩ := id hv3
    obtain ⟨d0, d1, d2⟩ := zad RZ3.out
    obtain ⟨f0, f1, f2⟩ := zaq RZ3.out
    clear hv3 hb3
    go_wp2_with fail
    exact zbc Tryd.results21 rfl rfl (Row.put3 RZ3.out _ _ _) (retQ Hr.out HB3.out (Nat.le_refl _) V23.out V3.out (by omega) (by omega))
end Go.Proofs.YtjkgdggkgljdoaaDoor
namespace Go.Proofs.YtjkgdggkgljdoaaDoor
set_option linter.unusedVariables false
abbrev RV := Nat → Rat
def altS (F : List RV → Rat) (c : Nat) : List RV → List RV → Rat
  | _, [] => 0
  | pre, v :: post => v c * F (pre ++ post) - altS F c (pre ++ [v]) post
def detL : List Nat → List RV → Rat
  | [], [] => 1
  | [], _ :: _ => 0
  | c :: cs, rows => altS (detL cs) c [] rows
def LinF (F : List RV → Rat) : Prop := ∀ (P Q : List RV) (u v : RV) (a b : Rat), F (P ++ (fun x => a * u x + b * v x) :: Q) = a * F (P ++ u :: Q) + b * F (P ++ v :: Q)
def AltF (F : List RV → Rat) : Prop := ∀ (P Q : List RV) (u : RV), F (P ++ u :: u :: Q) = 0
theorem altS_linP {F : List RV → Rat} (h : LinF F) (c : Nat) (u v : RV) (a b : Rat) (Q : List RV) : ∀ X Y : List RV, altS F c (X ++ (fun x => a * u x + b * v x) :: Y) Q = a * altS F c (X ++ u :: Y) Q + b * altS F c (X ++ v :: Y) Q := by
  induction Q with
  | nil => intro X Y; simp only [altS]; grind
  | cons q Q ih =>
    intro X Y
    have h1 := h X (Y ++ Q) u v a b
    have h2 := ih X (Y ++ [q])
    simp only [altS, List.append_assoc, List.cons_append] at h1 h2 ⊢
    rw [h1, h2]
    grind
theorem altS_lin {F : List RV → Rat} (h : LinF F) (c : Nat) (P Q : List RV) (u v : RV) (a b : Rat) : ∀ pre : List RV, altS F c pre (P ++ (fun x => a * u x + b * v x) :: Q) = a * altS F c pre (P ++ u :: Q) + b * altS F c pre (P ++ v :: Q) := by
  induction P with
  | nil =>
    intro pre
    have h1 := altS_linP h c u v a b Q pre []
    simp only [altS, List.nil_append] at h1 ⊢
    rw [h1]
    grind
  | cons p P ih =>
    intro pre
    have h1 := h (pre ++ P) Q u v a b
    have h2 := ih (pre ++ [p])
    simp only [altS, List.append_assoc, List.cons_append] at h1 h2 ⊢
    rw [h1, h2]
    grind
theorem detL_lin (cs : List Nat) : LinF (detL cs) := by
  induction cs with
  | nil =>
    intro P Q u v a b
    have e : ∀ w : RV, detL [] (P ++ w :: Q) = 0 := fun w => by cases P <;> rfl
    rw [e, e, e]
    grind
  | cons c cs ih => intro P Q u v a b; exact altS_lin ih c P Q u v a b []
theorem altS_altP {F : List RV → Rat} (h : AltF F) (c : Nat) (u : RV) (Q : List RV) : ∀ X Y : List RV, altS F c (X ++ u :: u :: Y) Q = 0 := by
  induction Q with
  | nil => intro X Y; rfl
  | cons q Q ih =>
    intro X Y
    have h1 := h X (Y ++ Q) u
    have h2 := ih X (Y ++ [q])
    simp only [altS, List.append_assoc, List.cons_append] at h1 h2 ⊢
    rw [h1, h2]
    grind
theorem altS_alt {F : List RV → Rat} (h : AltF F) (c : Nat) (P Q : List RV) (u : RV) : ∀ pre : List RV, altS F c pre (P ++ u :: u :: Q) = 0 := by
  induction P with
  | nil =>
    intro pre
    have h1 := altS_altP h c u Q pre []
    simp only [altS, List.nil_append, List.append_assoc, List.cons_append] at h1 ⊢
    rw [h1]
    grind
  | cons p P ih =>
    intro pre
    have h1 := h (pre ++ P) Q u
    have h2 := ih (pre ++ [p])
    simp only [altS, List.append_assoc, List.cons_append] at h1 h2 ⊢
    rw [h1, h2]
    grind
theorem detL_alt (cs : List Nat) : AltF (detL cs) := by
  induction cs with
  | nil => intro P Q u; cases P <;> rfl
  | cons c cs ih => intro P Q u; exact altS_alt ih c P Q u []
theorem detL_swap (cs : List Nat) (P Q : List RV) (u v : RV) : detL cs (P ++ u :: v :: Q) = - detL cs (P ++ v :: u :: Q) := by
  have h0 := detL_alt cs P Q (fun x => 1 * u x + 1 * v x)
  have h1 := detL_lin cs P ((fun x => 1 * u x + 1 * v x) :: Q) u v 1 1
  have h2 := detL_lin cs (P ++ [u]) Q u v 1 1
  have h3 := detL_lin cs (P ++ [v]) Q u v 1 1
  have h4 := detL_alt cs P Q u
  have h5 := detL_alt cs P Q v
  simp only [List.append_assoc, List.cons_append, List.nil_append] at h2 h3
  rw [h0, h2, h3, h4, h5] at h1
  grind
theorem detL_far (cs : List Nat) (u : RV) (Q R : List RV) : ∀ P : List RV, detL cs (P ++ u :: (R ++ u :: Q)) = 0 := by
  induction R with
  | nil => intro P; exact detL_alt cs P Q u
  | cons r R ih =>
    intro P
    have h1 := detL_swap cs P (R ++ u :: Q) u r
    have h2 := ih (P ++ [r])
    simp only [List.append_assoc, List.cons_append, List.nil_append] at h1 h2 ⊢
    rw [h1, h2]
    grind
theorem altS_block {F G : List RV → Rat} {k : Rat} {w : RV} {c n : Nat} (hF : ∀ r : List RV, r.length = n → F (r ++ [w]) = G r * k) (hw : w c = 0) (Ms : List RV) : ∀ pre : List RV, pre.length + Ms.length = n + 1 → altS F c pre (Ms ++ [w]) = altS G c pre Ms * k := by
  induction Ms with
  | nil => intro pre _; simp only [altS, List.nil_append, hw]; grind
  | cons m Ms ih =>
    intro pre h
    have h1 := hF (pre ++ Ms) (by simp at h ⊢; omega)
    have h2 := ih (pre ++ [m]) (by simp at h ⊢; omega)
    simp only [altS, List.append_assoc, List.cons_append] at h1 h2 ⊢
    rw [h1, h2]
    grind
theorem detL_block {w : RV} (x : Nat) (cs : List Nat) (hw : ∀ c ∈ cs, w c = 0) : ∀ Ms : List RV, Ms.length = cs.length → detL (cs ++ [x]) (Ms ++ [w]) = detL cs Ms * w x := by
  induction cs with
  | nil =>
    intro Ms h
    cases Ms with
    | nil => simp only [List.nil_append, detL, altS]; grind
    | cons m Ms => simp at h
  | cons c cs ih =>
    intro Ms h
    exact altS_block (n := cs.length) (fun r hr => ih (fun a ha => hw a (by simp [ha])) r hr) (hw c (by simp)) Ms [] (by simpa using h)
inductive Spn (Ms : List RV) : RV → Prop
  | row (v : RV) : v ∈ Ms → Spn Ms v
  | lin (a b : Rat) (u v : RV) : Spn Ms u → Spn Ms v → Spn Ms (fun x => a * u x + b * v x)
theorem Spn.mono {Ms Ns : List RV} (h : ∀ v ∈ Ms, v ∈ Ns) {v : RV} (hv : Spn Ms v) : Spn Ns v := by
  induction hv with
  | row v hv => exact .row v (h v hv)
  | lin a b u v _ _ h1 h2 => exact .lin a b u v h1 h2
theorem detL_row (cs : List Nat) {Ms : List RV} {v : RV} (h : v ∈ Ms) : detL cs (Ms ++ [v]) = 0 := by
  obtain ⟨P, R, rfl⟩ := List.append_of_mem h
  have := detL_far cs v [] R P
  simpa using this
theorem detL_spn (cs : List Nat) {Ms : List RV} {v : RV} (h : Spn Ms v) : detL cs (Ms ++ [v]) = 0 := by
  induction h with
  | row v hv => exact detL_row cs hv
  | lin a b u v _ _ h1 h2 =>
    have h := detL_lin cs Ms [] u v a b
    rw [h, h1, h2]
    grind
def sumN (n : Nat) (f : Nat → Rat) : Rat := match n with
  | 0 => 0
  | n + 1 => sumN n f + f n
theorem zbg {n : Nat} {f g : Nat → Rat} (h : ∀ i, i < n → f i = g i) : sumN n f = sumN n g := by
  induction n with
  | zero => rfl
  | succ n ih => rw [sumN, sumN, ih fun i hi => h i (by omega), h n (by omega)]
theorem sumN_zero {n : Nat} {f : Nat → Rat} (h : ∀ i, i < n → f i = 0) : sumN n f = 0 := by
  induction n with
  | zero => rfl
  | succ n ih => rw [sumN, ih fun i hi => h i (by omega), h n (by omega)]; grind
theorem zfh {n i : Nat} {f : Nat → Rat} (hi : i < n) (h : ∀ j, j < n → j ≠ i → f j = 0) : sumN n f = f i := by
  induction n with
  | zero => omega
  | succ n ih =>
    rw [sumN]
    rcases Nat.lt_or_ge i n with h1 | h1
    · rw [ih h1 fun j hj hn => h j (by omega) hn, h n (by omega) (by omega)]; grind
    · obtain rfl : i = n := by omega
      rw [sumN_zero fun j hj => h j (by omega) (by omega)]; grind
theorem zcb (n : Nat) (a : Rat) (f : Nat → Rat) : sumN n (fun i => a * f i) = a * sumN n f := by
  induction n with
  | zero => simp only [sumN]; grind
  | succ n ih => rw [sumN, sumN, ih]; grind
theorem sumN_add (n : Nat) (f g : Nat → Rat) : sumN n (fun i => f i + g i) = sumN n f + sumN n g := by
  induction n with
  | zero => simp only [sumN]; grind
  | succ n ih => rw [sumN, sumN, sumN, ih]; grind
theorem detL_rest {Ms : List RV} {cs : List Nat} {A : Nat → RV} {d : Rat} (hl : Ms.length = cs.length) (hA : ∀ l, l < cs.length → Spn Ms (A l)) (hd : ∀ l k, l < cs.length → k < cs.length → A l (cs.getD k 0) = if l = k then d else 0) (hdet : d = detL cs Ms) (hd0 : d ≠ 0) (w : RV) (x : Nat) :
    detL (cs ++ [x]) (Ms ++ [w]) = d * w x - sumN cs.length fun l => w (cs.getD l 0) * A l x := by
  have h1 : ∀ n, n ≤ cs.length → detL (cs ++ [x]) (Ms ++ [fun y => w y - sumN n fun l => w (cs.getD l 0) / d * A l y]) = detL (cs ++ [x]) (Ms ++ [w]) := by
    intro n hn
    induction n with
    | zero =>
      have e : (fun y => w y - sumN 0 fun l => w (cs.getD l 0) / d * A l y) = w := by funext y; simp only [sumN]; grind
      rw [e]
    | succ n ih =>
      have e : (fun y => w y - sumN (n + 1) fun l => w (cs.getD l 0) / d * A l y) = fun y => 1 * (fun y => w y - sumN n fun l => w (cs.getD l 0) / d * A l y) y + (-(w (cs.getD n 0) / d)) * A n y := by funext y; simp only [sumN]; grind
      rw [e, detL_lin (cs ++ [x]) Ms [] _ (A n) 1, detL_spn _ (hA n (by omega)), ih (by omega)]
      grind
  have h2 := detL_block (w := fun y => w y - sumN cs.length fun l => w (cs.getD l 0) / d * A l y) x cs (by
    intro c hc
    obtain ⟨k, hk, rfl⟩ := List.getElem_of_mem hc
    have ek : cs.getD k 0 = cs[k] := by rw [List.getD_eq_getElem?_getD, List.getElem?_eq_getElem hk]; rfl
    show w cs[k] - sumN cs.length (fun l => w (cs.getD l 0) / d * A l cs[k]) = 0
    rw [zfh hk fun j hj hne => by rw [← ek, hd j k hj hk, if_neg hne]; grind, ← ek, hd k k hk hk, if_pos rfl, Rat.div_mul_cancel hd0]
    grind) Ms hl
  rw [← h1 cs.length (Nat.le_refl _), h2, ← hdet]
  have e : (sumN cs.length fun l => w (cs.getD l 0) * A l x) = d * sumN cs.length fun l => w (cs.getD l 0) / d * A l x := by
    rw [← zcb]
    refine zbg fun l _ => ?_
    have := Rat.div_mul_cancel (a := w (cs.getD l 0)) hd0
    grind
  show d * (w x - sumN cs.length fun l => w (cs.getD l 0) / d * A l x) = _
  rw [e]
  grind
def IntV (v : RV) : Prop := ∀ x, ∃ z : Int, v x = (z : Rat)
theorem altS_int {F : List RV → Rat} (hF : ∀ r : List RV, (∀ v ∈ r, IntV v) → ∃ z : Int, F r = (z : Rat)) (c : Nat) (post : List RV) : ∀ pre : List RV, (∀ v ∈ pre, IntV v) → (∀ v ∈ post, IntV v) → ∃ z : Int, altS F c pre post = (z : Rat) := by
  induction post with
  | nil => intro pre _ _; exact ⟨0, rfl⟩
  | cons v post ih =>
    intro pre h1 h2
    obtain ⟨a, ha⟩ := h2 v (by simp) c
    obtain ⟨b, hb⟩ := hF (pre ++ post) (fun u hu => by rcases List.mem_append.1 hu with h | h; exact h1 u h; exact h2 u (by simp [h]))
    obtain ⟨e, he⟩ := ih (pre ++ [v]) (fun u hu => by rcases List.mem_append.1 hu with h | h; exact h1 u h; exact h2 u (by simp at h; simp [h])) (fun u hu => h2 u (by simp [hu]))
    refine ⟨a * b - e, ?_⟩
    rw [altS, ha, hb, he, Rat.intCast_sub, Rat.intCast_mul]
theorem detL_int (cs : List Nat) : ∀ rows : List RV, (∀ v ∈ rows, IntV v) → ∃ z : Int, detL cs rows = (z : Rat) := by
  induction cs with
  | nil =>
    intro rows _
    cases rows with
    | nil => exact ⟨1, rfl⟩
    | cons a l => exact ⟨0, rfl⟩
  | cons c cs ih => intro rows h; exact altS_int ih c rows [] (fun v hv => by cases hv) h
def sumP (l : List (Rat × Rat)) : Rat := l.foldl (fun s p => s + p.1 * p.2) 0
def dotQ (a b : List Rat) : Rat := sumP (a.zip b)
theorem sumP_snoc (l : List (Rat × Rat)) (x : Rat × Rat) : sumP (l ++ [x]) = sumP l + x.1 * x.2 := by simp [sumP]
theorem sumP_szA {n : Nat} : ∀ (l : List (Rat × Rat)) (s : Rat) (m : Nat), Sz s m → (∀ p ∈ l, Sz p.1 n ∧ Sz p.2 n) → Sz (l.foldl (fun s p => s + p.1 * p.2) s) (m + l.length * (2 * n + 1))
  | [], _, _, h, _ => by simpa using h
  | p :: l, s, m, h, hl => by
    have := sumP_szA l (s + p.1 * p.2) (m + (n + n) + 1) (h.add ((hl p (List.mem_cons_self ..)).1.mul (hl p (List.mem_cons_self ..)).2) |>.le (by omega)) fun q hq => hl q (List.mem_cons_of_mem _ hq)
    exact this.le (by rw [List.length_cons, Nat.add_mul]; omega)
theorem sumP_sz {n : Nat} {l : List (Rat × Rat)} (h : ∀ p ∈ l, Sz p.1 n ∧ Sz p.2 n) : Sz (sumP l) (1 + l.length * (2 * n + 1)) := sumP_szA l 0 1 Sz.zero h
theorem sumP_from (l : List (Rat × Rat)) : ∀ s : Rat, l.foldl (fun s p => s + p.1 * p.2) s = s + sumP l := by
  induction l with
  | nil => intro s; simp only [List.foldl_nil, sumP]; grind
  | cons p l ih =>
    intro s
    have h1 := ih (s + p.1 * p.2)
    have h2 := ih (0 + p.1 * p.2)
    simp only [sumP, List.foldl_cons] at h1 h2 ⊢
    rw [h1, h2]
    grind
theorem dotQ_cons (x y : Rat) (a b : List Rat) : dotQ (x :: a) (y :: b) = x * y + dotQ a b := by
  have h := sumP_from (a.zip b) (0 + x * y)
  unfold dotQ
  rw [List.zip_cons_cons]
  simp only [sumP, List.foldl_cons] at h ⊢
  rw [h]
  grind
theorem sumN_front (n : Nat) (f : Nat → Rat) : sumN (n + 1) f = f 0 + sumN n fun i => f (i + 1) := by
  induction n with
  | zero => simp only [sumN]; grind
  | succ n ih => rw [sumN, ih, sumN]; grind
theorem dotQ_sum (a : List Rat) : ∀ b : List Rat, a.length = b.length → dotQ a b = sumN a.length fun j => a.getD j 0 * b.getD j 0 := by
  induction a with
  | nil => intro b _; rfl
  | cons x a ih =>
    intro b h
    cases b with
    | nil => simp at h
    | cons y b =>
      rw [dotQ_cons, ih b (by simpa using h), List.length_cons, sumN_front]
      rfl
theorem sumN_swap (n p : Nat) (f : Nat → Nat → Rat) : sumN n (fun j => sumN p fun l => f j l) = sumN p fun l => sumN n fun j => f j l := by
  induction n with
  | zero => exact (sumN_zero fun i _ => rfl).symm
  | succ n ih =>
    rw [sumN, ih]
    have e : (sumN p fun l => sumN (n + 1) fun j => f j l) = sumN p fun l => (sumN n fun j => f j l) + f n l := zbg fun l _ => rfl
    rw [e, sumN_add]
theorem mk_div {a : Int} {d : Nat} (hd : 0 < d) : mkRat a d = (a : Rat) / ((d : Int) : Rat) := by rw [Rat.mkRat_eq_div]; rfl
theorem cast_ne {d : Nat} (hd : 0 < d) : ((d : Int) : Rat) ≠ 0 := by
  intro e
  have : (d : Int) = 0 := Rat.intCast_inj.1 (by rw [e]; rfl)
  omega
end Go.Proofs.YtjkgdggkgljdoaaDoor
namespace Go.Proofs.YtjkgdggkgljdoaaDoor
open Go.RowKit
set_option linter.unusedVariables false
theorem isR_open {w : World} {S : Nat → Prop} {v : Value} {r : Raw} (h : IsR w S v r) : ∃ A c B d, v = .agg #[.bool r.neg, .slice A r.num.length c, .slice B r.den.length d] ∧ IsK .u32 w S (.slice A r.num.length c) r.num ∧ IsK .u32 w S (.slice B r.den.length d) r.den := h
theorem zdn {w : World} {S : Nat → Prop} {A : Option Addr} {m c : Nat} {l : List Raw} (h : IsV w S (.slice A m c) l) {j : Nat} {r : Raw} (hj : l[j]? = some r) :
    ∃ b off P k Q d, A = some ⟨b, off, none⟩ ∧ S b ∧ IsR w S (.agg #[.bool r.neg, .slice P r.num.length k, .slice Q r.den.length d]) r ∧
      w.cell? ⟨b, off + j * 3, none⟩ = some (.bool r.neg) ∧ w.cell? ⟨b, off + j * 3 + 1, none⟩ = some (.slice P r.num.length k) ∧ w.cell? ⟨b, off + j * 3 + 2, none⟩ = some (.slice Q r.den.length d) := by
  obtain ⟨b, off, e, hA, hS, hr, _, hc⟩ := IsS.get h (by omega) hj
  obtain ⟨P, k, Q, d, rfl, h1, h2⟩ := hr
  refine ⟨b, off, P, k, Q, d, hA, hS, ⟨P, k, Q, d, rfl, h1, h2⟩, ?_, ?_, ?_⟩
  · exact hc 0 _ rfl
  · exact hc 1 _ rfl
  · exact hc 2 _ rfl
theorem zcm {w : World} {S : Nat → Prop} {v : Value} {l : List Raw} (h : IsV w S v l) : ∃ A c, v = .slice A l.length c ∧ l.length ≤ 9223372036854775807 := by
  obtain ⟨A, c, es, rfl, h1, h2, _⟩ := h
  exact ⟨A, c, rfl, by unfold maxLen at h2; omega⟩
theorem zcr {w : World} {S : Nat → Prop} {A : Option Addr} {n c : Nat} {m : List (List Raw)} (h : IsM w S (.slice A n c) m) {j : Nat} {l : List Raw} (hj : m[j]? = some l) :
    ∃ b off P k, A = some ⟨b, off, none⟩ ∧ S b ∧ IsV w S (.slice P l.length k) l ∧ w.cell? ⟨b, off + j, none⟩ = some (.slice P l.length k) := by
  obtain ⟨b, off, e, hA, hS, hr, _, hc⟩ := IsS.get h (by omega) hj
  obtain ⟨P, k, es, rfl, h1⟩ := hr
  refine ⟨b, off, P, k, hA, hS, ⟨P, k, es, rfl, h1⟩, ?_⟩
  have := hc 0 _ rfl
  rw [Nat.mul_one, Nat.add_zero] at this
  exact this
theorem zca {w : World} {S : Nat → Prop} {v : Value} {m : List (List Raw)} (h : IsM w S v m) : ∃ A c, v = .slice A m.length c ∧ m.length ≤ 9223372036854775807 := by
  obtain ⟨A, c, es, rfl, h1, h2, _⟩ := h
  exact ⟨A, c, rfl, by unfold maxLen at h2; omega⟩
theorem zbr : Tryd.prog.cellsOf 50 = 3 := by kernel_rfl
def chkQ (r : Raw) : Int := chkRaw chk r
def chkN (num den : List Nat) : Int := if chk num ≠ 0 then chk num else if chk den ≠ 0 then chk den else if den = [] then 6 else 0
theorem chkQ_parts {r : Raw} (h : chkN r.num r.den ≠ 0) : chkQ r = chkN r.num r.den := by
  unfold chkN at *
  unfold chkQ chkRaw
  split
  · rfl
  · rename_i h1
    rw [if_neg h1] at h
    split
    · rfl
    · rename_i h2
      rw [if_neg h2] at h
      split
      · rfl
      · rename_i h3
        rw [if_neg h3] at h
        exact absurd rfl h
theorem chkQ_rest {r : Raw} (h : chkN r.num r.den = 0) : chkQ r = if (r.num = [] ∧ r.neg = true) ∨ Nat.gcd (val r.num) (val r.den) ≠ 1 then 3 else 0 := by
  unfold chkN at h
  unfold chkQ chkRaw
  split at h
  · rename_i h1; exact absurd h h1
  rename_i h1
  split at h
  · rename_i h2; exact absurd h h2
  rename_i h2
  split at h
  · cases h
  rename_i h3
  rw [if_neg h1, if_neg h2, if_neg h3]
theorem chkN_ok {num den : List Nat} (h : chkN num den = 0) : chk num = 0 ∧ chk den = 0 ∧ den ≠ [] ∧ val den ≠ 0 := by
  unfold chkN at h
  split at h
  · rename_i h1; exact absurd h h1
  rename_i h1
  split at h
  · rename_i h2; exact absurd h h2
  rename_i h2
  split at h
  · cases h
  rename_i h3
  have h1 := Decidable.not_not.1 h1
  have h2 := Decidable.not_not.1 h2
  refine ⟨h1, h2, h3, fun e => h3 ?_⟩
  rw [(chk_ok h2).2.2, e, zbd]
theorem chkQ_raw {q : Rat} (h : Sz q 1024) : chkQ (raw q) = 0 := chkRaw_raw (chk_lim h.1) (chk_lim h.2)
def fstE : List Int → Int
  | [] => 0
  | e :: l => if e ≠ 0 then e else fstE l
theorem fstE_take {l : List Int} {k : Nat} (h : ∀ j, j < k → l.getD j 0 = 0) : fstE l = fstE (l.drop k) := by
  induction l generalizing k with
  | nil => simp
  | cons e l ih =>
    cases k with
    | zero => rfl
    | succ k =>
      have h0 := h 0 (by omega)
      simp at h0
      rw [List.drop_succ_cons, ← ih (k := k) (fun j hj => by have := h (j + 1) (by omega); simpa using this)]
      simp [fstE, h0]
theorem fstE_at {l : List Int} {k : Nat} {e : Int} (h : ∀ j, j < k → l.getD j 0 = 0) (hk : l[k]? = some e) (he : e ≠ 0) : fstE l = e := by
  rw [fstE_take h]
  have hlt : k < l.length := (List.getElem?_eq_some_iff.1 hk).1
  rw [List.drop_eq_getElem_cons hlt]
  have : l[k] = e := (List.getElem?_eq_some_iff.1 hk).2
  rw [this]
  simp [fstE, he]
theorem fstE_all {l : List Int} (h : ∀ j, j < l.length → l.getD j 0 = 0) : fstE l = 0 := by
  rw [fstE_take h, List.drop_length]
  rfl
def chkL (l : List Raw) : Int := fstE (l.map chkQ)
def chkV (l : List Raw) : Int := if 40 < l.length then 4 else chkL l
def chkM (m : List (List Raw)) : Int := if 40 < m.length then 4 else fstE (m.map fun row => if row.length ≠ (m.headD []).length then 3 else chkV row)
theorem chkL_raw {qs : List Rat} (h : ∀ q ∈ qs, Sz q 1024) : chkL (qs.map raw) = 0 := by
  unfold chkL
  induction qs with
  | nil => rfl
  | cons q qs ih =>
    rw [List.map_cons, List.map_cons, fstE, if_neg (by simp [chkQ_raw (h q (by simp))])]
    exact ih fun p hp => h p (by simp [hp])
theorem chkV_raw {qs : List Rat} (hl : qs.length ≤ 40) (h : ∀ q ∈ qs, Sz q 1024) : chkV (qs.map raw) = 0 := by
  unfold chkV
  rw [if_neg (by simp; omega)]
  exact chkL_raw h
structure Prog where
  A : List (List Raw)
  B : List Raw
  C : List Raw
def IsP (w : World) (S : Nat → Prop) (v : Value) (p : Prog) : Prop :=
  ∃ A a B b C c, v = .agg #[.slice A p.A.length a, .slice B p.B.length b, .slice C p.C.length c] ∧ IsM w S (.slice A p.A.length a) p.A ∧ IsV w S (.slice B p.B.length b) p.B ∧ IsV w S (.slice C p.C.length c) p.C
theorem IsP.stb : Stb IsP := by
  rintro w w' S T v p ⟨A, a, B, b, C, c, hv, h1, h2, h3⟩ hs
  exact ⟨A, a, B, b, C, c, hv, IsM.stb.to h1 hs, IsV.stb.to h2 hs, IsV.stb.to h3 hs⟩
def rawV (l : List Rat) : List Raw := l.map raw
def rawM (m : List (List Rat)) : List (List Raw) := m.map rawV
set_option maxHeartbeats 400000 in
theorem parts_l {w : World} {va vb : Value} {a b : List Nat} (ha : IsL .u32 w 0 w.heap.size va a) (hb : IsL .u32 w 0 w.heap.size vb b) : Calls Tryd.prog 122 #[va, vb] w fun e w' => e = .returned (.int .i64 (chkN a b)) ∧ w = w' := by
  have Ha := Lib.hid ha
  have Hb := Lib.hid hb
  obtain ⟨A, c, rfl, _, _, _⟩ := ha
  obtain ⟨B, d, rfl, _, _, _⟩ := hb
  obtain ⟨x, hx⟩ : ∃ x, x = chk a := ⟨_, rfl⟩
  obtain ⟨y, hy⟩ : ∃ y, y = chk b := ⟨_, rfl⟩
  have Hx := Lib.hid hx
  have Hy := Lib.hid hy
  clear hx hy
  by_cases h1 : x = 0
  case neg =>
    have e1 : (x != 0) = true := bne_iff_ne.2 h1
    have Hr : Hid (chkN a b = x) := by unfold Hid chkN; rw [← Hx.out, if_pos h1]
    go_enter Tryd.func122, Tryd.ntmps122
    go_wp2_with fail
    refine (check_l Ha.out).mono ?_
    rw [← Hx.out]
    rintro e w1 ⟨rfl, rfl⟩
    go_wp2_with fail
    go_ret
    exact ⟨zbb Hr.out.symm, rfl⟩
  have e1 : (x != 0) = false := by rw [h1]; rfl
  have H1 := Lib.hid h1
  clear h1
  by_cases h2 : y = 0
  case neg =>
    have e2 : (y != 0) = true := bne_iff_ne.2 h2
    have Hr : Hid (chkN a b = y) := by unfold Hid chkN; rw [← Hx.out, if_neg (by simp [H1.out]), ← Hy.out, if_pos h2]
    go_enter Tryd.func122, Tryd.ntmps122
    go_wp2_with fail
    refine (check_l Ha.out).mono ?_
    rw [← Hx.out]
    rintro e w1 ⟨rfl, rfl⟩
    go_wp2_with fail
    refine (check_l Hb.out).mono ?_
    rw [← Hy.out]
    rintro e w1 ⟨rfl, rfl⟩
    go_wp2_with fail
    go_ret
    exact ⟨zbb Hr.out.symm, rfl⟩
  have e2 : (y != 0) = false := by rw [h2]; rfl
  have H2 := Lib.hid h2
  clear h2
  by_cases h3 : b = []
  · have e3 : ((b.length : Int) == 0) = true := by rw [h3]; rfl
    have Hr : Hid (chkN a b = 6) := by unfold Hid chkN; rw [← Hx.out, if_neg (by simp [H1.out]), ← Hy.out, if_neg (by simp [H2.out]), if_pos h3]
    clear h3
    go_enter Tryd.func122, Tryd.ntmps122
    go_wp2_with fail
    refine (check_l Ha.out).mono ?_
    rw [← Hx.out]
    rintro e w1 ⟨rfl, rfl⟩
    go_wp2_with fail
    refine (check_l Hb.out).mono ?_
    rw [← Hy.out]
    rintro e w1 ⟨rfl, rfl⟩
    go_wp2_with fail
    go_ret
    exact ⟨zbb Hr.out.symm, rfl⟩
  · have e3 : ((b.length : Int) == 0) = false := beq_eq_false_iff_ne.2 (by have := List.length_pos_iff.2 h3; omega)
    have Hr : Hid (chkN a b = 0) := by unfold Hid chkN; rw [← Hx.out, if_neg (by simp [H1.out]), ← Hy.out, if_neg (by simp [H2.out]), if_neg h3]
    clear h3
    go_enter Tryd.func122, Tryd.ntmps122
    go_wp2_with fail
    refine (check_l Ha.out).mono ?_
    rw [← Hx.out]
    rintro e w1 ⟨rfl, rfl⟩
    go_wp2_with fail
    refine (check_l Hb.out).mono ?_
    rw [← Hy.out]
    rintro e w1 ⟨rfl, rfl⟩
    go_wp2_with fail
    go_ret
    exact ⟨zbb Hr.out.symm, rfl⟩
theorem coprime_v {w : World} {va vb : Value} {a b : List Nat} (ea : a = lim (val a)) (eb : b = lim (val b)) (ha : IsN w 0 w.heap.size va (val a)) (hb : IsN w 0 w.heap.size vb (val b)) (hB : Bru w) (h1 : (lim (val a)).length ≤ 1024) (h2 : (lim (val b)).length ≤ 1024) :
    Calls Tryd.prog 123 #[va, vb] w fun e w' => (∃ b' : Bool, e = .returned (.bool b') ∧ (b' = true ↔ Nat.gcd (val a) (val b) = 1)) ∧ Below w.heap.size w w' :=
  coprime_n ha hb hB (Nat.le_trans h1 (by omega)) (Nat.le_trans h2 (by omega))
set_option maxRecDepth 100000 in
set_option maxHeartbeats 1000000 in
theorem check_q {w : World} {v : Value} {r : Raw} (h : IsR w (Old w) v r) (hB : Bru w) : Calls Tryd.prog 90 #[v] w fun e w' => e = .returned (.int .i64 (chkQ r)) ∧ Below w.heap.size w w' := by
  obtain ⟨A, cA, B, cB, rfl, h1, h2⟩ := isR_open h
  obtain ⟨w0, hw0, hb0, rA, Hz⟩ := zcf w #[.bool r.neg, .slice A r.num.length cA, .slice B r.den.length cB] 50
  have Hn := Lib.hid (IsK.isL (IsK.stb.next h1 hb0) (lo := 0) (hi := w0.heap.size) fun b hb => ⟨Nat.zero_le _, hb⟩)
  have Hd := Lib.hid (IsK.isL (IsK.stb.next h2 hb0) (lo := 0) (hi := w0.heap.size) fun b hb => ⟨Nat.zero_le _, hb⟩)
  have HB := Lib.hid (Bru.next hB hb0)
  clear hB
  obtain ⟨a0, a1, a2⟩ := zad rA
  have HA := Lib.hid rA
  have Hb := Lib.hid hb0
  have hl : r.num.length ≤ 9223372036854775807 := by have := Hn.out.length_le; unfold maxLen at this; omega
  clear h h1 h2 rA hb0
  obtain ⟨x, hx⟩ : ∃ x, x = chkN r.num r.den := ⟨_, rfl⟩
  have Hx := Lib.hid hx
  clear hx
  by_cases hx0 : x = 0
  case neg =>
    have e1 : (x != 0) = true := bne_iff_ne.2 hx0
    have Hr : Hid (chkQ r = x) := by rw [Hid, Hx.out]; exact chkQ_parts (by rw [← Hx.out]; exact hx0)
    go_enter Tryd.func90, Tryd.ntmps90
    go_wp2_with fail
    refine (parts_l Hn.out Hd.out).mono ?_
    rw [← Hx.out]
    rintro e w1 ⟨rfl, rfl⟩
    go_wp2_with fail
    go_ret
    exact ⟨zbb Hr.out.symm, Hb.out⟩
  have e1 : (x != 0) = false := by rw [hx0]; rfl
  have hok := chkN_ok (num := r.num) (den := r.den) (by rw [← Hx.out]; exact hx0)
  have Hrest := Lib.hid (chkQ_rest (r := r) (by rw [← Hx.out]; exact hx0))
  have Hok := Lib.hid hok
  have HN := Lib.hid (Hn.out.isN hok.1)
  have HD := Lib.hid (Hd.out.isN hok.2.1)
  have en := (chk_ok hok.1).2.2
  have ed := (chk_ok hok.2.1).2.2
  have Hnl := Lib.hid (chk_len hok.1)
  have Hdl := Lib.hid (chk_len hok.2.1)
  clear hok hx0
  have Een := Lib.hid en
  have Eed := Lib.hid ed
  clear en ed
  obtain ⟨s, hs⟩ : ∃ s, s = r.neg := ⟨_, rfl⟩
  rw [← hs] at a0 hw0 Hrest ⊢
  clear hs
  by_cases h0 : r.num = []
  · have e2 : ((r.num.length : Int) == 0) = true := by rw [h0]; rfl
    cases s with
    | true =>
      have Hr : Hid (chkQ r = 3) := by rw [Hid, Hrest.out, if_pos (.inl ⟨h0, rfl⟩)]
      clear h0
      go_enter Tryd.func90, Tryd.ntmps90
      go_wp2_with fail
      refine (parts_l Hn.out Hd.out).mono ?_
      rw [← Hx.out]
      rintro e w1 ⟨rfl, rfl⟩
      go_wp2_with fail
      go_ret
      exact ⟨zbb Hr.out.symm, Hb.out⟩
    | false =>
      have Hr : Hid (chkQ r = if Nat.gcd (val r.num) (val r.den) ≠ 1 then 3 else 0) := by rw [Hid, Hrest.out]; simp
      clear h0
      go_enter Tryd.func90, Tryd.ntmps90
      go_wp2_with fail
      refine (parts_l Hn.out Hd.out).mono ?_
      rw [← Hx.out]
      rintro e w1 ⟨rfl, rfl⟩
      go_wp2_with fail
      refine (show Calls Tryd.prog 123 #[.slice A r.num.length cA, .slice B r.den.length cB] w0 (fun e w' => (∃ b : Bool, e = .returned (.bool b) ∧ (b = true ↔ Nat.gcd (val r.num) (val r.den) = 1)) ∧ Below w0.heap.size w0 w') from coprime_v Een.out Eed.out HN.out HD.out HB.out Hnl.out Hdl.out).mono ?_
      rintro e w1 ⟨⟨b, rfl, hb⟩, hbw⟩
      have Hbw := Lib.hid (zaa Hb.out hbw)
      have Hbb := Lib.hid hb
      clear hb hbw
      cases b with
      | true =>
        have Hr2 : Hid (chkQ r = 0) := by rw [Hid, Hr.out, if_neg (by simp [Hbb.out.1 rfl])]
        go_wp2_with fail
        go_ret
        exact ⟨zbb Hr2.out.symm, Hbw.out⟩
      | false =>
        have Hr2 : Hid (chkQ r = 3) := by rw [Hid, Hr.out, if_pos (fun h => Bool.noConfusion (Hbb.out.2 h))]
        go_wp2_with fail
        go_ret
        exact ⟨zbb Hr2.out.symm, Hbw.out⟩
  · have e2 : ((r.num.length : Int) == 0) = false := beq_eq_false_iff_ne.2 (by have := List.length_pos_iff.2 h0; omega)
    have Hr : Hid (chkQ r = if Nat.gcd (val r.num) (val r.den) ≠ 1 then 3 else 0) := by rw [Hid, Hrest.out]; simp [h0]
    clear h0
    go_enter Tryd.func90, Tryd.ntmps90
    go_wp2_with fail
    refine (parts_l Hn.out Hd.out).mono ?_
    rw [← Hx.out]
    rintro e w1 ⟨rfl, rfl⟩
    go_wp2_with fail
    refine (show Calls Tryd.prog 123 #[.slice A r.num.length cA, .slice B r.den.length cB] w0 (fun e w' => (∃ b : Bool, e = .returned (.bool b) ∧ (b = true ↔ Nat.gcd (val r.num) (val r.den) = 1)) ∧ Below w0.heap.size w0 w') from coprime_v Een.out Eed.out HN.out HD.out HB.out Hnl.out Hdl.out).mono ?_
    rintro e w1 ⟨⟨b, rfl, hb⟩, hbw⟩
    have Hbw := Lib.hid (zaa Hb.out hbw)
    have Hbb := Lib.hid hb
    clear hb hbw
    cases b with
    | true =>
      have Hr2 : Hid (chkQ r = 0) := by rw [Hid, Hr.out, if_neg (by simp [Hbb.out.1 rfl])]
      go_wp2_with fail
      go_ret
      exact ⟨zbb Hr2.out.symm, Hbw.out⟩
    | false =>
      have Hr2 : Hid (chkQ r = 3) := by rw [Hid, Hr.out, if_pos (fun h => Bool.noConfusion (Hbb.out.2 h))]
      go_wp2_with fail
      go_ret
      exact ⟨zbb Hr2.out.symm, Hbw.out⟩
theorem getD_map {l : List Raw} {j : Nat} {r : Raw} (h : l[j]? = some r) : (l.map chkQ).getD j 0 = chkQ r := by
  rw [List.getD_eq_getElem?_getD, List.getElem?_map, h]; rfl
theorem some_at {α : Type} {l : List α} {j : Nat} (h : j < l.length) : ∃ x, l[j]? = some x := ⟨_, List.getElem?_eq_getElem h⟩
set_option maxRecDepth 100000 in
set_option maxHeartbeats 1000000 in
theorem vcheck_l {w : World} {v : Value} {l : List Raw} (h : IsV w (Old w) v l) (hB : Bru w) :
    Calls Tryd.prog 75 #[v] w fun e w' => e = .returned (.int .i64 (chkV l)) ∧ Below w.heap.size w w' := by
  have H := Lib.hid h
  have HB := Lib.hid hB
  clear hB
  obtain ⟨A, c, rfl, hl⟩ := zcm h
  clear h
  by_cases h40 : 40 < l.length
  · have Hr : Hid (chkV l = 4) := by unfold Hid chkV; rw [if_pos h40]
    go_enter Tryd.func75, Tryd.ntmps75
    go_wp2_with fail
    go_ret
    exact ⟨zbb Hr.out.symm, Below.refl _ _⟩
  · have Hr : Hid (chkV l = chkL l) := by unfold Hid chkV; rw [if_neg h40]
    have h40' : l.length ≤ 40 := by omega
    clear h40
    go_enter Tryd.func75, Tryd.ntmps75
    go_wp2_with fail
    go_loopw [11] (fun i wr => ∃ k : Nat, k ≤ l.length ∧ i = .int .i64 (k : Int) ∧ Below w.heap.size w wr ∧ Hid (∀ j, j < k → (l.map chkQ).getD j 0 = 0)) (fun i _ => l.length - (intOf i).toNat)
    case atStart => exact ⟨0, Nat.zero_le _, rfl, Below.refl _ _, fun j hj => by omega⟩
    case round =>
      obtain ⟨k, hk, rfl, hbw, hrel⟩ := hrel
      have Hbw := Lib.hid hbw
      have Hrel := Lib.hid hrel.out
      clear hrel
      rcases Nat.lt_or_ge k l.length with hlt | hge
      · obtain ⟨r, hr⟩ := some_at hlt
        obtain ⟨b, off, P, kP, Q, kQ, rfl, hSb, hel, c0, c1, c2⟩ := zdn (IsV.stb.next H.out hbw) hr
        have Hel := Lib.hid hel
        have Hrr := Lib.hid hr
        have cr := zbr
        obtain ⟨x, hx⟩ : ∃ x, x = chkQ r := ⟨_, rfl⟩
        have Hx := Lib.hid hx
        clear hel hr hbw hx
        by_cases hx0 : x = 0
        · have e0 : (x != 0) = false := by rw [hx0]; rfl
          have Hx0 := Lib.hid hx0
          clear hx0
          go_wp2_with fail
          refine (check_q (IsR.stb.next Hel.out ((Below.refl _ _).alloc (Nat.le_refl _) _)) (Bru.next (Bru.next HB.out Hbw.out) ((Below.refl _ _).alloc (Nat.le_refl _) _))).mono ?_
          rw [← Hx.out]
          rintro e w1 ⟨rfl, hb⟩
          have Hb1 := Lib.hid (zaa Hbw.out ((Below.refl _ _).alloc (Nat.le_refl _) _ |> fun h => zaa h hb))
          clear hb
          go_wp2_with fail
          go_roundw
          case rel =>
            refine ⟨k + 1, by omega, by go_num, Hb1.out, fun j hj => ?_⟩
            rcases Nat.lt_or_ge j k with h | h
            · exact Hrel.out j h
            · obtain rfl : j = k := by omega
              rw [getD_map Hrr.out, ← Hx.out, Hx0.out]
          case measure => simp [intOf]; omega
        · have e0 : (x != 0) = true := bne_iff_ne.2 hx0
          have Hfin : Hid (chkV l = x) := by
            rw [Hid, Hr.out]
            exact fstE_at Hrel.out (by rw [List.getElem?_map, Hrr.out, Hx.out]; rfl) hx0
          clear hx0
          go_wp2_with fail
          refine (check_q (IsR.stb.next Hel.out ((Below.refl _ _).alloc (Nat.le_refl _) _)) (Bru.next (Bru.next HB.out Hbw.out) ((Below.refl _ _).alloc (Nat.le_refl _) _))).mono ?_
          rw [← Hx.out]
          rintro e w1 ⟨rfl, hb⟩
          have Hb1 := Lib.hid (zaa Hbw.out ((Below.refl _ _).alloc (Nat.le_refl _) _ |> fun h => zaa h hb))
          clear hb
          go_wp2_with fail
          go_ret
          exact ⟨zbb Hfin.out.symm, Hb1.out⟩
      · obtain rfl : k = l.length := by omega
        have Hfin : Hid (chkV l = 0) := by
          rw [Hid, Hr.out]
          exact fstE_all (by rw [List.length_map]; exact Hrel.out)
        clear hbw
        go_wp2_with fail
        go_ret
        exact ⟨zbb Hfin.out.symm, Hbw.out⟩
def chkRow (n : Nat) (row : List Raw) : Int := if row.length ≠ n then 3 else chkV row
theorem chkM_eq (m : List (List Raw)) : chkM m = if 40 < m.length then 4 else fstE (m.map (chkRow (m.headD []).length)) := rfl
theorem getD_mapM {m : List (List Raw)} {n j : Nat} {r : List Raw} (h : m[j]? = some r) : (m.map (chkRow n)).getD j 0 = chkRow n r := by
  rw [List.getD_eq_getElem?_getD, List.getElem?_map, h]; rfl
set_option maxRecDepth 100000 in
set_option maxHeartbeats 1000000 in
theorem form_l {w : World} {v : Value} {m : List (List Raw)} (h : IsM w (Old w) v m) (hB : Bru w) :
    Calls Tryd.prog 49 #[v] w fun e w' => e = .returned (.int .i64 (chkM m)) ∧ Below w.heap.size w w' := by
  have H := Lib.hid h
  have HB := Lib.hid hB
  clear hB
  obtain ⟨A, c, rfl, hl⟩ := zca h
  clear h
  by_cases h40 : 40 < m.length
  · have Hr : Hid (chkM m = 4) := by unfold Hid chkM; rw [if_pos h40]
    go_enter Tryd.func49, Tryd.ntmps49
    go_wp2_with fail
    go_ret
    exact ⟨zbb Hr.out.symm, Below.refl _ _⟩
  · have h40' : m.length ≤ 40 := by omega
    obtain ⟨n, hn⟩ : ∃ n, n = (m.headD []).length := ⟨_, rfl⟩
    have Hr : Hid (chkM m = fstE (m.map (chkRow n))) := by rw [Hid, chkM_eq, if_neg h40, hn]
    have Hn := Lib.hid hn
    clear h40 hn
    go_enter Tryd.func49, Tryd.ntmps49
    go_wp2_with fail
    go_loopw [11] (fun i wr => ∃ k : Nat, k ≤ m.length ∧ i = .int .i64 (k : Int) ∧ Below w.heap.size w wr ∧ Hid (∀ j, j < k → (m.map (chkRow n)).getD j 0 = 0)) (fun i _ => m.length - (intOf i).toNat)
    case atStart => exact ⟨0, Nat.zero_le _, rfl, Below.refl _ _, fun j hj => by omega⟩
    case round =>
      obtain ⟨k, hk, rfl, hbw, hrel⟩ := hrel
      have Hbw := Lib.hid hbw
      have Hrel := Lib.hid hrel.out
      clear hrel
      rcases Nat.lt_or_ge k m.length with hlt | hge
      · obtain ⟨row, hrow⟩ := some_at hlt
        obtain ⟨row0, hrow0⟩ := some_at (show 0 < m.length by omega)
        obtain ⟨b, off, P, kP, rfl, hSb, hel, c0⟩ := zcr (IsM.stb.next H.out hbw) hrow
        obtain ⟨b0, off0, P0, kP0, hA0, hSb0, hel0, c1⟩ := zcr (IsM.stb.next H.out hbw) hrow0
        simp only [Option.some.injEq, Addr.mk.injEq, and_true] at hA0
        obtain ⟨rfl, rfl⟩ := hA0
        rw [Nat.add_zero] at c1
        have hn0 : Hid (row0.length = n) := by
          rw [Hid, Hn.out]
          cases m with
          | nil => simp at hlt
          | cons a t => simp at hrow0; rw [← hrow0]; rfl
        have Hrow := Lib.hid hel
        have Hrr := Lib.hid hrow
        have hpos : 0 < m.length := by omega
        clear hel hrow hbw hel0 hrow0
        by_cases hlen : row.length = row0.length
        case neg =>
          have e1 : ((row.length : Int) != (row0.length : Int)) = true := bne_iff_ne.2 (by omega)
          have Hfin : Hid (chkM m = 3) := by
            rw [Hid, Hr.out]
            refine fstE_at Hrel.out (by rw [List.getElem?_map, Hrr.out]; rfl) ?_ |>.trans ?_
            · unfold chkRow; rw [if_pos (by rw [← hn0.out]; exact hlen)]; decide
            · unfold chkRow; rw [if_pos (by rw [← hn0.out]; exact hlen)]
          clear hlen
          go_wp2_with fail
          go_ret
          exact ⟨zbb Hfin.out.symm, Hbw.out⟩
        have e1 : ((row.length : Int) != (row0.length : Int)) = false := by rw [hlen]; simp
        have Hlen := Lib.hid hlen
        clear hlen
        obtain ⟨x, hx⟩ : ∃ x, x = chkV row := ⟨_, rfl⟩
        have Hx := Lib.hid hx
        have Hxr : Hid (chkRow n row = x) := by rw [Hid, hx]; unfold chkRow; rw [if_neg (by rw [← hn0.out]; simp [Hlen.out])]
        clear hx
        by_cases hx0 : x = 0
        · have e0 : (x != 0) = false := by rw [hx0]; rfl
          have Hx0 := Lib.hid hx0
          clear hx0
          go_wp2_with fail
          refine (vcheck_l Hrow.out (Bru.next HB.out Hbw.out)).mono ?_
          rw [← Hx.out]
          rintro e w1 ⟨rfl, hb⟩
          have Hb1 := Lib.hid (zaa Hbw.out hb)
          clear hb
          go_wp2_with fail
          go_roundw
          case rel =>
            refine ⟨k + 1, by omega, by go_num, Hb1.out, fun j hj => ?_⟩
            rcases Nat.lt_or_ge j k with h | h
            · exact Hrel.out j h
            · obtain rfl : j = k := by omega
              rw [getD_mapM Hrr.out, Hxr.out, Hx0.out]
          case measure => simp [intOf]; omega
        · have e0 : (x != 0) = true := bne_iff_ne.2 hx0
          have Hfin : Hid (chkM m = x) := by
            rw [Hid, Hr.out]
            exact fstE_at Hrel.out (by rw [List.getElem?_map, Hrr.out, ← Hxr.out]; rfl) hx0
          clear hx0
          go_wp2_with fail
          refine (vcheck_l Hrow.out (Bru.next HB.out Hbw.out)).mono ?_
          rw [← Hx.out]
          rintro e w1 ⟨rfl, hb⟩
          have Hb1 := Lib.hid (zaa Hbw.out hb)
          clear hb
          go_wp2_with fail
          go_ret
          exact ⟨zbb Hfin.out.symm, Hb1.out⟩
      · obtain rfl : k = m.length := by omega
        have Hfin : Hid (chkM m = 0) := by
          rw [Hid, Hr.out]
          exact fstE_all (by rw [List.length_map]; exact Hrel.out)
        clear hbw
        go_wp2_with fail
        go_ret
        exact ⟨zbb Hfin.out.symm, Hbw.out⟩
theorem rat_info : (Tryd.prog.info? 50).map (fun i => (i.zero, i.size, i.bytes)) = some (some (.agg #[.bool false, .slice none 0 0, .slice none 0 0]), 3, 56) := by kernel_rfl
theorem elR : ElN Tryd.prog 29 50 3 56 :=
  ⟨Tryd.underlying29, by obtain ⟨i, h1, h2, h3, h4⟩ := info_parts rat_info; exact ⟨i, _, h1, h2, h3, h4, rfl⟩, by omega⟩
theorem zeh {l : List Rat} {j : Nat} (h : j < l.length) : ∃ q, l[j]? = some q ∧ (rawV l)[j]? = some (raw q) := ⟨l[j], List.getElem?_eq_getElem h, by simp [rawV, List.getElem?_eq_getElem h]⟩
theorem zda {α : Type} {l : List α} {k : Nat} {x : α} (h : l[k]? = some x) : l.take (k + 1) = l.take k ++ [x] := by
  obtain ⟨hk, rfl⟩ := List.getElem?_eq_some_iff.1 h
  exact List.take_succ_eq_append_getElem hk
theorem isR_isQ {w : World} {S : Nat → Prop} {v : Value} {q : Rat} (h : IsR w S v (raw q)) : IsQ w S v q := h
theorem zeg {m : List (List Rat)} {j : Nat} (h : j < m.length) : ∃ row, m[j]? = some row ∧ (rawM m)[j]? = some (rawV row) := ⟨m[j], List.getElem?_eq_getElem h, by simp [rawM, List.getElem?_eq_getElem h]⟩
end Go.Proofs.YtjkgdggkgljdoaaDoor
namespace Go.Proofs.YtjkgdggkgljdoaaDoor
section
variable {P : Program} {ops : Array Oper} {md : Region.Mode} {w : World} {m : Nat}
end
end Go.Proofs.YtjkgdggkgljdoaaDoor
namespace Go.Proofs.YtjkgdggkgljdoaaDoor
open Go.RowKit Go.Shelf
attribute [local go_sem] Oper.semAt_some
set_option linter.unusedVariables false
abbrev S3 := Option Addr × Nat × Nat
abbrev Q3 := Bool × S3 × S3
def q3 (x : Q3) : Value := .agg #[.bool x.1, .slice x.2.1.1 x.2.1.2.1 x.2.1.2.2, .slice x.2.2.1 x.2.2.2.1 x.2.2.2.2]
theorem keepN {w w' : World} {n b o : Nat} {v : Value} (hb : Below n w w') (hn : b < n) (h : w.cell? ⟨b, o, none⟩ = some v) : w'.cell? ⟨b, o, none⟩ = some v := (hb.cell (p := ⟨b, o, none⟩) hn).trans h
def Els3 (w : World) (n₀ : Nat) (A : Option Addr) (es : List Q3) : Prop := ∀ (j : Nat) (e : Q3), es[j]? = some e → ∃ b off, A = some ⟨b, off, none⟩ ∧ b < n₀ ∧
  w.cell? ⟨b, off + j * 3, none⟩ = some (.bool e.1) ∧ w.cell? ⟨b, off + j * 3 + 1, none⟩ = some (.slice e.2.1.1 e.2.1.2.1 e.2.1.2.2) ∧ w.cell? ⟨b, off + j * 3 + 2, none⟩ = some (.slice e.2.2.1 e.2.2.2.1 e.2.2.2.2)
def Els1 (w : World) (n₀ : Nat) (A : Option Addr) (es : List Value) : Prop := ∀ (j : Nat) (e : Value), es[j]? = some e → ∃ b off, A = some ⟨b, off, none⟩ ∧ b < n₀ ∧ w.cell? ⟨b, off + j, none⟩ = some e
theorem Els3.below {w w' : World} {n₀ : Nat} {A : Option Addr} {es : List Q3} (h : Els3 w n₀ A es) (hb : Below w.heap.size w w') (hn : n₀ ≤ w.heap.size) : Els3 w' n₀ A es := fun j e he => by
  obtain ⟨b, off, h1, h2, h4, h5, h6⟩ := h j e he
  exact ⟨b, off, h1, h2, keepN hb (by omega) h4, keepN hb (by omega) h5, keepN hb (by omega) h6⟩
theorem Els1.below {w w' : World} {n₀ : Nat} {A : Option Addr} {es : List Value} (h : Els1 w n₀ A es) (hb : Below w.heap.size w w') (hn : n₀ ≤ w.heap.size) : Els1 w' n₀ A es := fun j e he => by
  obtain ⟨b, off, h1, h2, h4⟩ := h j e he
  exact ⟨b, off, h1, h2, keepN hb (by omega) h4⟩
end Go.Proofs.YtjkgdggkgljdoaaDoor
