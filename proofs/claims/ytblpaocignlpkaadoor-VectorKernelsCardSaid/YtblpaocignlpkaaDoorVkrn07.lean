/-
  Contracts of the verifier's kit: Gcd, NatOf, RatOf.
-/
import Derived.Test.YtblpaocignlpkaaDoorVkrn02
import Derived.Test.YtblpaocignlpkaaDoorVkrn04
import Derived.Test.YtblpaocignlpkaaDoorVkrn06
import Derived.StillTailTactics
import Derived.OrdersIn
import Derived.TacticsIn
import Derived.RangeFuncNested
import Derived.RangeFuncBox
import Derived.RangeFuncBound
import Derived.RangeFuncCalls
import Derived.RangeFuncLeaves
import Derived.Shelf.Abstract
import Derived.Shelf.RegionOpen
import Derived.WalkKit
import Derived.OwnWalkIn
import Derived.TacticsInMore
import Derived.LoopNIn
import Derived.LoopIn
import Derived.Maps.AppendAt
import Derived.Laws.EntriesVeiled
namespace Go.Proofs.YtblpaocignlpkaaDoor
open Go.RowKit
set_option linter.unusedVariables false
theorem tmod_nat (m n : Nat) : Int.tmod (m : Int) (n : Int) = ((m % n : Nat) : Int) := rfl
set_option maxRecDepth 100000 in
set_option maxHeartbeats 1000000 in
theorem gcd_i {w : World} {a b : Nat} (ha : a ≤ 4611686018427387904) (hb : b ≤ 4611686018427387904) :
    Calls Tryd.prog 63 #[.int .i64 (a : Int), .int .i64 (b : Int)] w fun e w' => e = .returned (.int .i64 ((Nat.gcd a b : Nat) : Int)) ∧ Dr w w' := by
  go_enter Tryd.func63, Tryd.ntmps63
  go_wp2_with fail
  go_loopw [0, 1] (fun x y wr => ∃ m n : Nat, x = .int .i64 (m : Int) ∧ y = .int .i64 (n : Int) ∧ Hid (Nat.gcd m n = Nat.gcd a b) ∧ m ≤ 4611686018427387904 ∧ n ≤ 4611686018427387904 ∧ Dr w wr) (fun _ y _ => (intOf y).toNat)
  case atStart => exact ⟨a, b, rfl, rfl, rfl, ha, hb, Dr.refl _⟩
  case round =>
    obtain ⟨m, n, rfl, rfl, hg, hm, hn, ⟨k, rfl⟩⟩ := hrel
    rcases Nat.eq_zero_or_pos n with hn0 | hn0
    · have Hg : Hid (m = Nat.gcd a b) := by rw [Hid, ← hg.out, hn0, Nat.gcd_zero_right]
      have b1 : ((n : Int) != 0) = false := by rw [hn0]; rfl
      have hmax : max (m : Int) (-(m : Int)) = (m : Int) := by omega
      subst hn0
      go_wp2_with fail
      go_ret
      exact ⟨by show Ending.returned (.int .i64 _) = _; rw [← Hg.out], ⟨k, rfl⟩⟩
    · have b1 : ((n : Int) != 0) = true := bne_iff_ne.2 (by omega)
      have b2 : (n : Int) ≠ 0 := by omega
      have ht := tmod_nat m n
      have hlt : m % n < n := Nat.mod_lt _ hn0
      go_wp2_with fail
      go_quiet (fail)
      go_wp2_with fail
      have em : (m : Int) % (n : Int) = ((m % n : Nat) : Int) := rfl
      go_roundw
      case rel => exact ⟨n, m % n, rfl, by rw [em], by rw [Hid, Nat.gcd_comm, ← Nat.gcd_rec, Nat.gcd_comm]; exact hg.out, hn, by omega, ⟨k + nq, by simp [World.drewN, Nat.add_assoc]⟩⟩
      case measure => rw [em]; simp [intOf]; omega
theorem lim_step {n : Nat} (h : n ≠ 0) : lim n = (n % 1000000000) :: lim (n / 1000000000) := zeh h
set_option maxRecDepth 100000 in
set_option maxHeartbeats 1000000 in
theorem natof_n {w : World} {n : Nat} (hn : n ≤ 4611686018427387904) :
    Calls Tryd.prog 64 #[.int .i64 (n : Int)] w fun e w' => (∃ v, e = .returned v ∧ IsN w' w.heap.size w'.heap.size v n) ∧ Below w.heap.size w w' := by
  have Hn3 : Hid ((lim n).length ≤ 3) := lim_len_le.2 (by have : pw 3 = 1000000000000000000000000000 := rfl; omega)
  go_enter Tryd.func64, Tryd.ntmps64
  go_wp2_with fail
  go_loopw [0, 3] (fun x v wr => ∃ (m : Nat) (l : List Nat), x = .int .i64 (m : Int) ∧ m ≤ 4611686018427387904 ∧ Own wr w.heap.size 94 v (cel .u32 l) ∧ Below w.heap.size w wr ∧ Hid (lim n = l ++ lim m)) (fun x _ _ => (intOf x).toNat)
  case atStart => exact ⟨n, [], rfl, hn, Own.nil _ _ _, Below.refl _ _, rfl⟩
  case round =>
    obtain ⟨m, l, rfl, hm, hown, hb, hl⟩ := hrel
    rcases Nat.eq_zero_or_pos m with h0 | h0
    · have Hl : Hid (lim n = l) := by rw [Hid, hl.out, h0, zbd, List.append_nil]
      have b1 : ¬ ((m : Int) > 0) := by omega
      subst h0
      have hb' := hb
      go_wp2_with fail
      go_ret
      refine ⟨⟨_, rfl, ?_⟩, hb⟩
      have h1 := hown.isL
      rw [← Hl.out] at h1
      exact h1
    · have b1 : (m : Int) > 0 := by omega
      have et : Int.tmod (m : Int) 1000000000 = ((m % 1000000000 : Nat) : Int) := rfl
      have ed : Int.tdiv (m : Int) 1000000000 = ((m / 1000000000 : Nat) : Int) := rfl
      have hlt : m % 1000000000 < 1000000000 := Nat.mod_lt _ (by omega)
      have hln : Hid ((cel .u32 l).length ≤ 100) := by rw [Hid, zbq]; have := congrArg List.length hl.out; rw [List.length_append] at this; have := Hn3.out; omega
      have hbw : w.heap.size ≤ wr.heap.size := hb.size
      go_wp2_with (at_builtin; refine zcl elN rfl _ _ rfl rfl hown rfl rfl (by have := hln.out; omega) hbw ?_; intro v1 w1 hown1 hbw1 hz1)
      have ed2 : (m : Int) / 1000000000 = ((m / 1000000000 : Nat) : Int) := rfl
      rw [zbv .u32 l (m % 1000000000) _ (by omega)] at hown1
      go_roundw
      case rel => exact ⟨m / 1000000000, l ++ [m % 1000000000], by rw [ed2], by omega, hown1, hb.trans hbw1, by rw [Hid, hl.out, lim_step (by omega)]; simp⟩
      case measure => rw [ed2]; simp [intOf]; omega
def zdf (a : Int) (b : Nat) : Rat := mkRat a b
theorem quot_sz {a : Int} {b : Nat} (ha : a.natAbs ≤ 4611686018427387904) (hb : b ≤ 4611686018427387904) (h0 : b ≠ 0) : Sz (zdf a b) 3 := by
  have h3 : pw 3 = 1000000000000000000000000000 := rfl
  exact sz_of_mk h0 (lim_len_le.2 (by omega)) (lim_len_le.2 (by omega))
theorem quot_raw {neg : Bool} {n d g : Nat} (hd : d ≠ 0) (hg : g = Nat.gcd n d) (hn : n = 0 → neg = false) : raw (zdf (sg neg n) d) = ⟨neg, lim (n / g), lim (d / g)⟩ := by
  unfold zdf
  subst hg
  rcases Nat.eq_zero_or_pos n with h | h
  · subst h
    rw [sg_zero, Rat.zero_mkRat, raw_zero, Nat.zero_div, Nat.gcd_zero_left, Nat.div_self (by omega), zbd, zdb, hn rfl]
  · exact raw_ratio (by omega) hd
set_option maxRecDepth 100000 in
set_option maxHeartbeats 2000000 in
theorem ratof_q {w : World} {a : Int} {b : Nat} (ha : a.natAbs ≤ 4611686018427387904) (hb : b ≤ 4611686018427387904) (h0 : b ≠ 0) :
    Calls Tryd.prog 21 #[.int .i64 a, .int .i64 (b : Int)] w (RetQ w (zdf a b)) := by
  obtain ⟨n, hn⟩ : ∃ n, n = a.natAbs := ⟨_, rfl⟩
  obtain ⟨g, hg⟩ : ∃ g, g = Nat.gcd n b := ⟨_, rfl⟩
  have g0 : 0 < g := by rw [hg]; exact Nat.gcd_pos_of_pos_right _ (by omega)
  have hgn : n / g ≤ n := Nat.div_le_self _ _
  have hgb : b / g ≤ b := Nat.div_le_self _ _
  have Hg := Lib.hid hg
  have Hb0 := Lib.hid h0
  obtain ⟨w0, hw0, hb0, rZ, Hz⟩ := zch w #[.bool false, .slice none 0 0, .slice none 0 0] 50
  have RZ := Lib.hid rZ
  have HB0 := Lib.hid hb0
  clear rZ hb0
  rcases (by omega : a < 0 ∨ 0 ≤ a) with hneg | hpos
  · have ea : a = -(n : Int) := by omega
    have hn0 : 0 < n := by omega
    have hdv : g ∣ n := by rw [hg]; exact Nat.gcd_dvd_left _ _
    have hq0 : 0 < n / g := Nat.div_pos (Nat.le_of_dvd hn0 hdv) g0
    have Hr : Hid (raw (zdf a b) = ⟨true, lim (n / g), lim (b / g)⟩) := by rw [Hid, ea]; exact quot_raw (neg := true) h0 hg (fun h => by omega)
    rw [ea] at Hr ⊢
    have hmax : max (-(n : Int)) (n : Int) = (n : Int) := by omega
    have e1 : Int.tdiv (-(n : Int)) (g : Int) = -((n / g : Nat) : Int) := by rw [Int.neg_tdiv]; rfl
    have e1b : -((n / g : Nat) : Int) < 0 := by have : (0 : Int) < ((n / g : Nat) : Int) := Int.natCast_pos.2 hq0; exact Int.neg_neg_of_pos this
    have b2 : (g : Int) ≠ 0 := by omega
    have e2w : wrap64 ((b : Int) / (g : Int)) = ((b / g : Nat) : Int) := by rw [show (b : Int) / (g : Int) = ((b / g : Nat) : Int) from rfl]; (generalize b / g = q at hgb ⊢; unfold wrap64; omega)
    have hn9 : n ≤ 4611686018427387904 := by omega
    clear hg h0 hn ha ea hneg hdv
    go_enter Tryd.func21, Tryd.ntmps21
    go_wp2_with fail
    clear hw0
    refine (gcd_i (a := n) (b := b) hn9 hb).mono ?_
    rw [← Hg.out]
    rintro e w1 ⟨rfl, hd⟩
    have hb1 := hd.below w0.heap.size
    have HB1 := Lib.hid (zaa HB0.out hb1)
    have HS1 := Lib.hid hb1.size
    have RZ1 := Lib.hid (RZ.out.next hb1)
    clear hd hb1
    go_wp2_with fail
    go_quiet (fail)
    go_wp2_with fail
    rw [show (n : Int) / (g : Int) = ((n / g : Nat) : Int) from rfl]
    refine (natof_n (n := n / g) (by omega)).mono ?_
    rintro e w2 ⟨⟨v2, rfl, hv2⟩, hb2⟩
    have hb2' := zaa (Dr.below (⟨nq, rfl⟩ : Dr w1 (w1.drewN nq)) w1.heap.size) hb2
    have HB2 := Lib.hid (zaa HB1.out hb2')
    have RZ2 := Lib.hid (RZ1.out.next hb2')
    have V2 := Lib.hid (IsK.stb.le (isN_new hv2) (m := w.heap.size + 1) (by have h1 := Hz.out; have h2 := HB1.out.size; have h3 := HS1.out; show _ ≤ w1.heap.size; omega))
    obtain ⟨P2, k2, rfl, _, _, _⟩ := id hv2
    clear hv2 hb2 hb2'
    go_wp2_with fail
    (try rw [e2w])
    refine (natof_n (n := b / g) (by omega)).mono ?_
    rintro e w3 ⟨⟨v3, rfl, hv3⟩, hb3⟩
    have HB3 := Lib.hid (zaa HB2.out hb3)
    have RZ3 := Lib.hid (RZ2.out.next hb3)
    have V3 := Lib.hid (IsK.stb.le (isN_new hv3) (m := w.heap.size + 1) (by have h1 := RZ2.out.lt; omega))
    have V23 := Lib.hid (IsK.stb.fresh V2.out hb3)
    obtain ⟨P3, k3, rfl, _, _, _⟩ := id hv3
    obtain ⟨d0, d1, d2⟩ := zad RZ3.out
    obtain ⟨f0, f1, f2⟩ := zaq RZ3.out
    clear hv3 hb3
    go_wp2_with fail
    exact zbb Tryd.results21 rfl rfl (Row.put3 RZ3.out _ _ _) (retQ Hr.out HB3.out (Nat.le_refl _) V23.out V3.out (by omega) (by omega))
  · have ea : a = (n : Int) := by omega
    have Hr : Hid (raw (zdf a b) = ⟨false, lim (n / g), lim (b / g)⟩) := by rw [Hid, ea]; exact quot_raw (neg := false) h0 hg (fun _ => rfl)
    subst ea
    have hmax : max (n : Int) (-(n : Int)) = (n : Int) := by omega
    have b1 : ¬ ((n / g : Nat) : Int) < 0 := Int.not_lt.2 (Int.natCast_nonneg _)
    have b2 : (g : Int) ≠ 0 := by omega
    have e2w : wrap64 ((b : Int) / (g : Int)) = ((b / g : Nat) : Int) := by rw [show (b : Int) / (g : Int) = ((b / g : Nat) : Int) from rfl]; (generalize b / g = q at hgb ⊢; unfold wrap64; omega)
    have hn9 : n ≤ 4611686018427387904 := by omega
    clear hg h0 hn ha
    go_enter Tryd.func21, Tryd.ntmps21
    go_wp2_with fail
    clear hw0
    refine (gcd_i (a := n) (b := b) hn9 hb).mono ?_
    rw [← Hg.out]
    rintro e w1 ⟨rfl, hd⟩
    have hb1 := hd.below w0.heap.size
    have HB1 := Lib.hid (zaa HB0.out hb1)
    have HS1 := Lib.hid hb1.size
    have RZ1 := Lib.hid (RZ.out.next hb1)
    clear hd hb1
    go_wp2_with fail
    go_quiet (fail)
    go_wp2_with fail
    rw [show (n : Int) / (g : Int) = ((n / g : Nat) : Int) from rfl]
    refine (natof_n (n := n / g) (by omega)).mono ?_
    rintro e w2 ⟨⟨v2, rfl, hv2⟩, hb2⟩
    have hb2' := zaa (Dr.below (⟨nq, rfl⟩ : Dr w1 (w1.drewN nq)) w1.heap.size) hb2
    have HB2 := Lib.hid (zaa HB1.out hb2')
    have RZ2 := Lib.hid (RZ1.out.next hb2')
    have V2 := Lib.hid (IsK.stb.le (isN_new hv2) (m := w.heap.size + 1) (by have h1 := Hz.out; have h2 := HB1.out.size; have h3 := HS1.out; show _ ≤ w1.heap.size; omega))
    obtain ⟨P2, k2, rfl, _, _, _⟩ := id hv2
    clear hv2 hb2 hb2'
    go_wp2_with fail
    (try rw [e2w])
    refine (natof_n (n := b / g) (by omega)).mono ?_
    rintro e w3 ⟨⟨v3, rfl, hv3⟩, hb3⟩
    have HB3 := Lib.hid (zaa HB2.out hb3)
    have RZ3 := Lib.hid (RZ2.out.next hb3)
    have V3 := Lib.hid (IsK.stb.le (isN_new hv3) (m := w.heap.size + 1) (by have h1 := RZ2.out.lt; omega))
    have V23 := Lib.hid (IsK.stb.fresh V2.out hb3)
    obtain ⟨P3, k3, rfl, _, _, _⟩ := id hv3
    obtain ⟨d0, d1, d2⟩ := zad RZ3.out
    obtain ⟨f0, f1, f2⟩ := zaq RZ3.out
    clear hv3 hb3
    go_wp2_with fail
    exact zbb Tryd.results21 rfl rfl (Row.put3 RZ3.out _ _ _) (retQ Hr.out HB3.out (Nat.le_refl _) V23.out V3.out (by omega) (by omega))
theorem isR_open {w : World} {S : Nat → Prop} {v : Value} {r : Raw} (h : IsR w S v r) : ∃ A c B d, v = .agg #[.bool r.neg, .slice A r.num.length c, .slice B r.den.length d] ∧ IsK .u32 w S (.slice A r.num.length c) r.num ∧ IsK .u32 w S (.slice B r.den.length d) r.den := h
theorem zcs {w : World} {S : Nat → Prop} {A : Option Addr} {m c : Nat} {l : List Raw} (h : IsV w S (.slice A m c) l) {j : Nat} {r : Raw} (hj : l[j]? = some r) :
    ∃ b off P k Q d, A = some ⟨b, off, none⟩ ∧ S b ∧ IsR w S (.agg #[.bool r.neg, .slice P r.num.length k, .slice Q r.den.length d]) r ∧
      w.cell? ⟨b, off + j * 3, none⟩ = some (.bool r.neg) ∧ w.cell? ⟨b, off + j * 3 + 1, none⟩ = some (.slice P r.num.length k) ∧ w.cell? ⟨b, off + j * 3 + 2, none⟩ = some (.slice Q r.den.length d) := by
  obtain ⟨b, off, e, hA, hS, hr, _, hc⟩ := IsS.get h (by omega) hj
  obtain ⟨P, k, Q, d, rfl, h1, h2⟩ := hr
  refine ⟨b, off, P, k, Q, d, hA, hS, ⟨P, k, Q, d, rfl, h1, h2⟩, ?_, ?_, ?_⟩
  · exact hc 0 _ rfl
  · exact hc 1 _ rfl
  · exact hc 2 _ rfl
theorem zcb {w : World} {S : Nat → Prop} {v : Value} {l : List Raw} (h : IsV w S v l) : ∃ A c, v = .slice A l.length c ∧ l.length ≤ 9223372036854775807 := by
  obtain ⟨A, c, es, rfl, h1, h2, _⟩ := h
  exact ⟨A, c, rfl, by unfold maxLen at h2; omega⟩
theorem zcj {w : World} {S : Nat → Prop} {A : Option Addr} {n c : Nat} {m : List (List Raw)} (h : IsM w S (.slice A n c) m) {j : Nat} {l : List Raw} (hj : m[j]? = some l) :
    ∃ b off P k, A = some ⟨b, off, none⟩ ∧ S b ∧ IsV w S (.slice P l.length k) l ∧ w.cell? ⟨b, off + j, none⟩ = some (.slice P l.length k) := by
  obtain ⟨b, off, e, hA, hS, hr, _, hc⟩ := IsS.get h (by omega) hj
  obtain ⟨P, k, es, rfl, h1⟩ := hr
  refine ⟨b, off, P, k, hA, hS, ⟨P, k, es, rfl, h1⟩, ?_⟩
  have := hc 0 _ rfl
  rw [Nat.mul_one, Nat.add_zero] at this
  exact this
theorem zdk {w : World} {S : Nat → Prop} {v : Value} {m : List (List Raw)} (h : IsM w S v m) : ∃ A c, v = .slice A m.length c ∧ m.length ≤ 9223372036854775807 := by
  obtain ⟨A, c, es, rfl, h1, h2, _⟩ := h
  exact ⟨A, c, rfl, by unfold maxLen at h2; omega⟩
theorem zbn : Tryd.prog.cellsOf 50 = 3 := by kernel_rfl
def chkQ (r : Raw) : Int := chkRaw chk r
def chkN (num den : List Nat) : Int := if chk num ≠ 0 then chk num else if chk den ≠ 0 then chk den else if den = [] then 6 else 0
theorem chkQ_parts {r : Raw} (h : chkN r.num r.den ≠ 0) : chkQ r = chkN r.num r.den := by
  unfold chkN at *
  unfold chkQ chkRaw
  split
  · rfl
  · rename_i h1
    rw [if_neg h1] at h
    split
    · rfl
    · rename_i h2
      rw [if_neg h2] at h
      split
      · rfl
      · rename_i h3
        rw [if_neg h3] at h
        exact absurd rfl h
theorem chkQ_rest {r : Raw} (h : chkN r.num r.den = 0) : chkQ r = if (r.num = [] ∧ r.neg = true) ∨ Nat.gcd (val r.num) (val r.den) ≠ 1 then 3 else 0 := by
  unfold chkN at h
  unfold chkQ chkRaw
  split at h
  · rename_i h1; exact absurd h h1
  rename_i h1
  split at h
  · rename_i h2; exact absurd h h2
  rename_i h2
  split at h
  · cases h
  rename_i h3
  rw [if_neg h1, if_neg h2, if_neg h3]
theorem chkN_ok {num den : List Nat} (h : chkN num den = 0) : chk num = 0 ∧ chk den = 0 ∧ den ≠ [] ∧ val den ≠ 0 := by
  unfold chkN at h
  split at h
  · rename_i h1; exact absurd h h1
  rename_i h1
  split at h
  · rename_i h2; exact absurd h h2
  rename_i h2
  split at h
  · cases h
  rename_i h3
  have h1 := Decidable.not_not.1 h1
  have h2 := Decidable.not_not.1 h2
  refine ⟨h1, h2, h3, fun e => h3 ?_⟩
  rw [(chk_ok h2).2.2, e, zbd]
theorem chkQ_raw {q : Rat} (h : Sz q 1024) : chkQ (raw q) = 0 := chkRaw_raw (chk_lim h.1) (chk_lim h.2)
def fstE : List Int → Int
  | [] => 0
  | e :: l => if e ≠ 0 then e else fstE l
theorem fstE_take {l : List Int} {k : Nat} (h : ∀ j, j < k → l.getD j 0 = 0) : fstE l = fstE (l.drop k) := by
  induction l generalizing k with
  | nil => simp
  | cons e l ih =>
    cases k with
    | zero => rfl
    | succ k =>
      have h0 := h 0 (by omega)
      simp at h0
      rw [List.drop_succ_cons, ← ih (k := k) (fun j hj => by have := h (j + 1) (by omega); simpa using this)]
      simp [fstE, h0]
theorem fstE_at {l : List Int} {k : Nat} {e : Int} (h : ∀ j, j < k → l.getD j 0 = 0) (hk : l[k]? = some e) (he : e ≠ 0) : fstE l = e := by
  rw [fstE_take h]
  have hlt : k < l.length := (List.getElem?_eq_some_iff.1 hk).1
  rw [List.drop_eq_getElem_cons hlt]
  have : l[k] = e := (List.getElem?_eq_some_iff.1 hk).2
  rw [this]
  simp [fstE, he]
theorem fstE_all {l : List Int} (h : ∀ j, j < l.length → l.getD j 0 = 0) : fstE l = 0 := by
  rw [fstE_take h, List.drop_length]
  rfl
def chkL (l : List Raw) : Int := fstE (l.map chkQ)
def chkV (l : List Raw) : Int := if 40 < l.length then 4 else chkL l
def chkM (m : List (List Raw)) : Int := if 40 < m.length then 4 else fstE (m.map fun row => if row.length ≠ (m.headD []).length then 3 else chkV row)
theorem chkL_raw {qs : List Rat} (h : ∀ q ∈ qs, Sz q 1024) : chkL (qs.map raw) = 0 := by
  unfold chkL
  induction qs with
  | nil => rfl
  | cons q qs ih =>
    rw [List.map_cons, List.map_cons, fstE, if_neg (by simp [chkQ_raw (h q (by simp))])]
    exact ih fun p hp => h p (by simp [hp])
theorem chkV_raw {qs : List Rat} (hl : qs.length ≤ 40) (h : ∀ q ∈ qs, Sz q 1024) : chkV (qs.map raw) = 0 := by
  unfold chkV
  rw [if_neg (by simp; omega)]
  exact chkL_raw h
structure Prog where
  A : List (List Raw)
  B : List Raw
  C : List Raw
def IsP (w : World) (S : Nat → Prop) (v : Value) (p : Prog) : Prop :=
  ∃ A a B b C c, v = .agg #[.slice A p.A.length a, .slice B p.B.length b, .slice C p.C.length c] ∧ IsM w S (.slice A p.A.length a) p.A ∧ IsV w S (.slice B p.B.length b) p.B ∧ IsV w S (.slice C p.C.length c) p.C
theorem IsP.stb : Stb IsP := by
  rintro w w' S T v p ⟨A, a, B, b, C, c, hv, h1, h2, h3⟩ hs
  exact ⟨A, a, B, b, C, c, hv, IsM.stb.to h1 hs, IsV.stb.to h2 hs, IsV.stb.to h3 hs⟩
def rawV (l : List Rat) : List Raw := l.map raw
def rawM (m : List (List Rat)) : List (List Raw) := m.map rawV
set_option maxHeartbeats 400000 in
theorem parts_l {w : World} {va vb : Value} {a b : List Nat} (ha : IsL .u32 w 0 w.heap.size va a) (hb : IsL .u32 w 0 w.heap.size vb b) : Calls Tryd.prog 122 #[va, vb] w fun e w' => e = .returned (.int .i64 (chkN a b)) ∧ w = w' := by
  have Ha := Lib.hid ha
  have Hb := Lib.hid hb
  obtain ⟨A, c, rfl, _, _, _⟩ := ha
  obtain ⟨B, d, rfl, _, _, _⟩ := hb
  obtain ⟨x, hx⟩ : ∃ x, x = chk a := ⟨_, rfl⟩
  obtain ⟨y, hy⟩ : ∃ y, y = chk b := ⟨_, rfl⟩
  have Hx := Lib.hid hx
  have Hy := Lib.hid hy
  clear hx hy
  by_cases h1 : x = 0
  case neg =>
    have e1 : (x != 0) = true := bne_iff_ne.2 h1
    have Hr : Hid (chkN a b = x) := by unfold Hid chkN; rw [← Hx.out, if_pos h1]
    go_enter Tryd.func122, Tryd.ntmps122
    go_wp2_with fail
    refine (check_l Ha.out).mono ?_
    rw [← Hx.out]
    rintro e w1 ⟨rfl, rfl⟩
    go_wp2_with fail
    go_ret
    exact ⟨zbc Hr.out.symm, rfl⟩
  have e1 : (x != 0) = false := by rw [h1]; rfl
  have H1 := Lib.hid h1
  clear h1
  by_cases h2 : y = 0
  case neg =>
    have e2 : (y != 0) = true := bne_iff_ne.2 h2
    have Hr : Hid (chkN a b = y) := by unfold Hid chkN; rw [← Hx.out, if_neg (by simp [H1.out]), ← Hy.out, if_pos h2]
    go_enter Tryd.func122, Tryd.ntmps122
    go_wp2_with fail
    refine (check_l Ha.out).mono ?_
    rw [← Hx.out]
    rintro e w1 ⟨rfl, rfl⟩
    go_wp2_with fail
    refine (check_l Hb.out).mono ?_
    rw [← Hy.out]
    rintro e w1 ⟨rfl, rfl⟩
    go_wp2_with fail
    go_ret
    exact ⟨zbc Hr.out.symm, rfl⟩
  have e2 : (y != 0) = false := by rw [h2]; rfl
  have H2 := Lib.hid h2
  clear h2
  by_cases h3 : b = []
  · have e3 : ((b.length : Int) == 0) = true := by rw [h3]; rfl
    have Hr : Hid (chkN a b = 6) := by unfold Hid chkN; rw [← Hx.out, if_neg (by simp [H1.out]), ← Hy.out, if_neg (by simp [H2.out]), if_pos h3]
    clear h3
    go_enter Tryd.func122, Tryd.ntmps122
    go_wp2_with fail
    refine (check_l Ha.out).mono ?_
    rw [← Hx.out]
    rintro e w1 ⟨rfl, rfl⟩
    go_wp2_with fail
    refine (check_l Hb.out).mono ?_
    rw [← Hy.out]
    rintro e w1 ⟨rfl, rfl⟩
    go_wp2_with fail
    go_ret
    exact ⟨zbc Hr.out.symm, rfl⟩
  · have e3 : ((b.length : Int) == 0) = false := beq_eq_false_iff_ne.2 (by have := List.length_pos_iff.2 h3; omega)
    have Hr : Hid (chkN a b = 0) := by unfold Hid chkN; rw [← Hx.out, if_neg (by simp [H1.out]), ← Hy.out, if_neg (by simp [H2.out]), if_neg h3]
    clear h3
    go_enter Tryd.func122, Tryd.ntmps122
    go_wp2_with fail
    refine (check_l Ha.out).mono ?_
    rw [← Hx.out]
    rintro e w1 ⟨rfl, rfl⟩
    go_wp2_with fail
    refine (check_l Hb.out).mono ?_
    rw [← Hy.out]
    rintro e w1 ⟨rfl, rfl⟩
    go_wp2_with fail
    go_ret
    exact ⟨zbc Hr.out.symm, rfl⟩
theorem coprime_v {w : World} {va vb : Value} {a b : List Nat} (ea : a = lim (val a)) (eb : b = lim (val b)) (ha : IsN w 0 w.heap.size va (val a)) (hb : IsN w 0 w.heap.size vb (val b)) (hB : Bru w) (h1 : (lim (val a)).length ≤ 1024) (h2 : (lim (val b)).length ≤ 1024) :
    Calls Tryd.prog 123 #[va, vb] w fun e w' => (∃ b' : Bool, e = .returned (.bool b') ∧ (b' = true ↔ Nat.gcd (val a) (val b) = 1)) ∧ Below w.heap.size w w' :=
  coprime_n ha hb hB (Nat.le_trans h1 (by omega)) (Nat.le_trans h2 (by omega))
set_option maxRecDepth 100000 in
set_option maxHeartbeats 1000000 in
theorem check_q {w : World} {v : Value} {r : Raw} (h : IsR w (Old w) v r) (hB : Bru w) : Calls Tryd.prog 90 #[v] w fun e w' => e = .returned (.int .i64 (chkQ r)) ∧ Below w.heap.size w w' := by
  obtain ⟨A, cA, B, cB, rfl, h1, h2⟩ := isR_open h
  obtain ⟨w0, hw0, hb0, rA, Hz⟩ := zch w #[.bool r.neg, .slice A r.num.length cA, .slice B r.den.length cB] 50
  have Hn := Lib.hid (IsK.isL (IsK.stb.next h1 hb0) (lo := 0) (hi := w0.heap.size) fun b hb => ⟨Nat.zero_le _, hb⟩)
  have Hd := Lib.hid (IsK.isL (IsK.stb.next h2 hb0) (lo := 0) (hi := w0.heap.size) fun b hb => ⟨Nat.zero_le _, hb⟩)
  have HB := Lib.hid (Bru.next hB hb0)
  clear hB
  obtain ⟨a0, a1, a2⟩ := zad rA
  have HA := Lib.hid rA
  have Hb := Lib.hid hb0
  have hl : r.num.length ≤ 9223372036854775807 := by have := Hn.out.length_le; unfold maxLen at this; omega
  clear h h1 h2 rA hb0
  obtain ⟨x, hx⟩ : ∃ x, x = chkN r.num r.den := ⟨_, rfl⟩
  have Hx := Lib.hid hx
  clear hx
  by_cases hx0 : x = 0
  case neg =>
    have e1 : (x != 0) = true := bne_iff_ne.2 hx0
    have Hr : Hid (chkQ r = x) := by rw [Hid, Hx.out]; exact chkQ_parts (by rw [← Hx.out]; exact hx0)
    go_enter Tryd.func90, Tryd.ntmps90
    go_wp2_with fail
    refine (parts_l Hn.out Hd.out).mono ?_
    rw [← Hx.out]
    rintro e w1 ⟨rfl, rfl⟩
    go_wp2_with fail
    go_ret
    exact ⟨zbc Hr.out.symm, Hb.out⟩
  have e1 : (x != 0) = false := by rw [hx0]; rfl
  have hok := chkN_ok (num := r.num) (den := r.den) (by rw [← Hx.out]; exact hx0)
  have Hrest := Lib.hid (chkQ_rest (r := r) (by rw [← Hx.out]; exact hx0))
  have Hok := Lib.hid hok
  have HN := Lib.hid (Hn.out.isN hok.1)
  have HD := Lib.hid (Hd.out.isN hok.2.1)
  have en := (chk_ok hok.1).2.2
  have ed := (chk_ok hok.2.1).2.2
  have Hnl := Lib.hid (chk_len hok.1)
  have Hdl := Lib.hid (chk_len hok.2.1)
  clear hok hx0
  have Een := Lib.hid en
  have Eed := Lib.hid ed
  clear en ed
  obtain ⟨s, hs⟩ : ∃ s, s = r.neg := ⟨_, rfl⟩
  rw [← hs] at a0 hw0 Hrest ⊢
  clear hs
  by_cases h0 : r.num = []
  · have e2 : ((r.num.length : Int) == 0) = true := by rw [h0]; rfl
    cases s with
    | true =>
      have Hr : Hid (chkQ r = 3) := by rw [Hid, Hrest.out, if_pos (.inl ⟨h0, rfl⟩)]
      clear h0
      go_enter Tryd.func90, Tryd.ntmps90
      go_wp2_with fail
      refine (parts_l Hn.out Hd.out).mono ?_
      rw [← Hx.out]
      rintro e w1 ⟨rfl, rfl⟩
      go_wp2_with fail
      go_ret
      exact ⟨zbc Hr.out.symm, Hb.out⟩
    | false =>
      have Hr : Hid (chkQ r = if Nat.gcd (val r.num) (val r.den) ≠ 1 then 3 else 0) := by rw [Hid, Hrest.out]; simp
      clear h0
      go_enter Tryd.func90, Tryd.ntmps90
      go_wp2_with fail
      refine (parts_l Hn.out Hd.out).mono ?_
      rw [← Hx.out]
      rintro e w1 ⟨rfl, rfl⟩
      go_wp2_with fail
      refine (show Calls Tryd.prog 123 #[.slice A r.num.length cA, .slice B r.den.length cB] w0 (fun e w' => (∃ b : Bool, e = .returned (.bool b) ∧ (b = true ↔ Nat.gcd (val r.num) (val r.den) = 1)) ∧ Below w0.heap.size w0 w') from coprime_v Een.out Eed.out HN.out HD.out HB.out Hnl.out Hdl.out).mono ?_
      rintro e w1 ⟨⟨b, rfl, hb⟩, hbw⟩
      have Hbw := Lib.hid (zaa Hb.out hbw)
      have Hbb := Lib.hid hb
      clear hb hbw
      cases b with
      | true =>
        have Hr2 : Hid (chkQ r = 0) := by rw [Hid, Hr.out, if_neg (by simp [Hbb.out.1 rfl])]
        go_wp2_with fail
        go_ret
        exact ⟨zbc Hr2.out.symm, Hbw.out⟩
      | false =>
        have Hr2 : Hid (chkQ r = 3) := by rw [Hid, Hr.out, if_pos (fun h => Bool.noConfusion (Hbb.out.2 h))]
        go_wp2_with fail
        go_ret
        exact ⟨zbc Hr2.out.symm, Hbw.out⟩
  · have e2 : ((r.num.length : Int) == 0) = false := beq_eq_false_iff_ne.2 (by have := List.length_pos_iff.2 h0; omega)
    have Hr : Hid (chkQ r = if Nat.gcd (val r.num) (val r.den) ≠ 1 then 3 else 0) := by rw [Hid, Hrest.out]; simp [h0]
    clear h0
    go_enter Tryd.func90, Tryd.ntmps90
    go_wp2_with fail
    refine (parts_l Hn.out Hd.out).mono ?_
    rw [← Hx.out]
    rintro e w1 ⟨rfl, rfl⟩
    go_wp2_with fail
    refine (show Calls Tryd.prog 123 #[.slice A r.num.length cA, .slice B r.den.length cB] w0 (fun e w' => (∃ b : Bool, e = .returned (.bool b) ∧ (b = true ↔ Nat.gcd (val r.num) (val r.den) = 1)) ∧ Below w0.heap.size w0 w') from coprime_v Een.out Eed.out HN.out HD.out HB.out Hnl.out Hdl.out).mono ?_
    rintro e w1 ⟨⟨b, rfl, hb⟩, hbw⟩
    have Hbw := Lib.hid (zaa Hb.out hbw)
    have Hbb := Lib.hid hb
    clear hb hbw
    cases b with
    | true =>
      have Hr2 : Hid (chkQ r = 0) := by rw [Hid, Hr.out, if_neg (by simp [Hbb.out.1 rfl])]
      go_wp2_with fail
      go_ret
      exact ⟨zbc Hr2.out.symm, Hbw.out⟩
    | false =>
      have Hr2 : Hid (chkQ r = 3) := by rw [Hid, Hr.out, if_pos (fun h => Bool.noConfusion (Hbb.out.2 h))]
      go_wp2_with fail
      go_ret
      exact ⟨zbc Hr2.out.symm, Hbw.out⟩
theorem getD_map {l : List Raw} {j : Nat} {r : Raw} (h : l[j]? = some r) : (l.map chkQ).getD j 0 = chkQ r := by
  rw [List.getD_eq_getElem?_getD, List.getElem?_map, h]; rfl
theorem zfn {α : Type} {l : List α} {j : Nat} (h : j < l.length) : ∃ x, l[j]? = some x := ⟨_, List.getElem?_eq_getElem h⟩
set_option maxRecDepth 100000 in
set_option maxHeartbeats 1000000 in
theorem vcheck_l {w : World} {v : Value} {l : List Raw} (h : IsV w (Old w) v l) (hB : Bru w) :
    Calls Tryd.prog 75 #[v] w fun e w' => e = .returned (.int .i64 (chkV l)) ∧ Below w.heap.size w w' := by
  have H := Lib.hid h
  have HB := Lib.hid hB
  clear hB
  obtain ⟨A, c, rfl, hl⟩ := zcb h
  clear h
  by_cases h40 : 40 < l.length
  · have Hr : Hid (chkV l = 4) := by unfold Hid chkV; rw [if_pos h40]
    go_enter Tryd.func75, Tryd.ntmps75
    go_wp2_with fail
    go_ret
    exact ⟨zbc Hr.out.symm, Below.refl _ _⟩
  · have Hr : Hid (chkV l = chkL l) := by unfold Hid chkV; rw [if_neg h40]
    have h40' : l.length ≤ 40 := by omega
    clear h40
    go_enter Tryd.func75, Tryd.ntmps75
    go_wp2_with fail
    go_loopw [11] (fun i wr => ∃ k : Nat, k ≤ l.length ∧ i = .int .i64 (k : Int) ∧ Below w.heap.size w wr ∧ Hid (∀ j, j < k → (l.map chkQ).getD j 0 = 0)) (fun i _ => l.length - (intOf i).toNat)
    case atStart => exact ⟨0, Nat.zero_le _, rfl, Below.refl _ _, fun j hj => by omega⟩
    case round =>
      obtain ⟨k, hk, rfl, hbw, hrel⟩ := hrel
      have Hbw := Lib.hid hbw
      have Hrel := Lib.hid hrel.out
      clear hrel
      rcases Nat.lt_or_ge k l.length with hlt | hge
      · obtain ⟨r, hr⟩ := zfn hlt
        obtain ⟨b, off, P, kP, Q, kQ, rfl, hSb, hel, c0, c1, c2⟩ := zcs (IsV.stb.next H.out hbw) hr
        have Hel := Lib.hid hel
        have Hrr := Lib.hid hr
        have cr := zbn
        obtain ⟨x, hx⟩ : ∃ x, x = chkQ r := ⟨_, rfl⟩
        have Hx := Lib.hid hx
        clear hel hr hbw hx
        by_cases hx0 : x = 0
        · have e0 : (x != 0) = false := by rw [hx0]; rfl
          have Hx0 := Lib.hid hx0
          clear hx0
          go_wp2_with fail
          refine (check_q (IsR.stb.next Hel.out ((Below.refl _ _).alloc (Nat.le_refl _) _)) (Bru.next (Bru.next HB.out Hbw.out) ((Below.refl _ _).alloc (Nat.le_refl _) _))).mono ?_
          rw [← Hx.out]
          rintro e w1 ⟨rfl, hb⟩
          have Hb1 := Lib.hid (zaa Hbw.out ((Below.refl _ _).alloc (Nat.le_refl _) _ |> fun h => zaa h hb))
          clear hb
          go_wp2_with fail
          go_roundw
          case rel =>
            refine ⟨k + 1, by omega, by go_num, Hb1.out, fun j hj => ?_⟩
            rcases Nat.lt_or_ge j k with h | h
            · exact Hrel.out j h
            · obtain rfl : j = k := by omega
              rw [getD_map Hrr.out, ← Hx.out, Hx0.out]
          case measure => simp [intOf]; omega
        · have e0 : (x != 0) = true := bne_iff_ne.2 hx0
          have Hfin : Hid (chkV l = x) := by
            rw [Hid, Hr.out]
            exact fstE_at Hrel.out (by rw [List.getElem?_map, Hrr.out, Hx.out]; rfl) hx0
          clear hx0
          go_wp2_with fail
          refine (check_q (IsR.stb.next Hel.out ((Below.refl _ _).alloc (Nat.le_refl _) _)) (Bru.next (Bru.next HB.out Hbw.out) ((Below.refl _ _).alloc (Nat.le_refl _) _))).mono ?_
          rw [← Hx.out]
          rintro e w1 ⟨rfl, hb⟩
          have Hb1 := Lib.hid (zaa Hbw.out ((Below.refl _ _).alloc (Nat.le_refl _) _ |> fun h => zaa h hb))
          clear hb
          go_wp2_with fail
          go_ret
          exact ⟨zbc Hfin.out.symm, Hb1.out⟩
      · obtain rfl : k = l.length := by omega
        have Hfin : Hid (chkV l = 0) := by
          rw [Hid, Hr.out]
          exact fstE_all (by rw [List.length_map]; exact Hrel.out)
        clear hbw
        go_wp2_with fail
        go_ret
        exact ⟨zbc Hfin.out.symm, Hbw.out⟩
def chkRow (n : Nat) (row : List Raw) : Int := if row.length ≠ n then 3 else chkV row
theorem chkM_eq (m : List (List Raw)) : chkM m = if 40 < m.length then 4 else fstE (m.map (chkRow (m.headD []).length)) := rfl
theorem getD_mapM {m : List (List Raw)} {n j : Nat} {r : List Raw} (h : m[j]? = some r) : (m.map (chkRow n)).getD j 0 = chkRow n r := by
  rw [List.getD_eq_getElem?_getD, List.getElem?_map, h]; rfl
set_option maxRecDepth 100000 in
set_option maxHeartbeats 1000000 in
theorem form_l {w : World} {v : Value} {m : List (List Raw)} (h : IsM w (Old w) v m) (hB : Bru w) :
    Calls Tryd.prog 49 #[v] w fun e w' => e = .returned (.int .i64 (chkM m)) ∧ Below w.heap.size w w' := by
  have H := Lib.hid h
  have HB := Lib.hid hB
  clear hB
  obtain ⟨A, c, rfl, hl⟩ := zdk h
  clear h
  by_cases h40 : 40 < m.length
  · have Hr : Hid (chkM m = 4) := by unfold Hid chkM; rw [if_pos h40]
    go_enter Tryd.func49, Tryd.ntmps49
    go_wp2_with fail
    go_ret
    exact ⟨zbc Hr.out.symm, Below.refl _ _⟩
  · have h40' : m.length ≤ 40 := by omega
    obtain ⟨n, hn⟩ : ∃ n, n = (m.headD []).length := ⟨_, rfl⟩
    have Hr : Hid (chkM m = fstE (m.map (chkRow n))) := by rw [Hid, chkM_eq, if_neg h40, hn]
    have Hn := Lib.hid hn
    clear h40 hn
    go_enter Tryd.func49, Tryd.ntmps49
    go_wp2_with fail
    go_loopw [11] (fun i wr => ∃ k : Nat, k ≤ m.length ∧ i = .int .i64 (k : Int) ∧ Below w.heap.size w wr ∧ Hid (∀ j, j < k → (m.map (chkRow n)).getD j 0 = 0)) (fun i _ => m.length - (intOf i).toNat)
    case atStart => exact ⟨0, Nat.zero_le _, rfl, Below.refl _ _, fun j hj => by omega⟩
    case round =>
      obtain ⟨k, hk, rfl, hbw, hrel⟩ := hrel
      have Hbw := Lib.hid hbw
      have Hrel := Lib.hid hrel.out
      clear hrel
      rcases Nat.lt_or_ge k m.length with hlt | hge
      · obtain ⟨row, hrow⟩ := zfn hlt
        obtain ⟨row0, hrow0⟩ := zfn (show 0 < m.length by omega)
        obtain ⟨b, off, P, kP, rfl, hSb, hel, c0⟩ := zcj (IsM.stb.next H.out hbw) hrow
        obtain ⟨b0, off0, P0, kP0, hA0, hSb0, hel0, c1⟩ := zcj (IsM.stb.next H.out hbw) hrow0
        simp only [Option.some.injEq, Addr.mk.injEq, and_true] at hA0
        obtain ⟨rfl, rfl⟩ := hA0
        rw [Nat.add_zero] at c1
        have hn0 : Hid (row0.length = n) := by
          rw [Hid, Hn.out]
          cases m with
          | nil => simp at hlt
          | cons a t => simp at hrow0; rw [← hrow0]; rfl
        have Hrow := Lib.hid hel
        have Hrr := Lib.hid hrow
        have hpos : 0 < m.length := by omega
        clear hel hrow hbw hel0 hrow0
        by_cases hlen : row.length = row0.length
        case neg =>
          have e1 : ((row.length : Int) != (row0.length : Int)) = true := bne_iff_ne.2 (by omega)
          have Hfin : Hid (chkM m = 3) := by
            rw [Hid, Hr.out]
            refine fstE_at Hrel.out (by rw [List.getElem?_map, Hrr.out]; rfl) ?_ |>.trans ?_
            · unfold chkRow; rw [if_pos (by rw [← hn0.out]; exact hlen)]; decide
            · unfold chkRow; rw [if_pos (by rw [← hn0.out]; exact hlen)]
          clear hlen
          go_wp2_with fail
          go_ret
          exact ⟨zbc Hfin.out.symm, Hbw.out⟩
        have e1 : ((row.length : Int) != (row0.length : Int)) = false := by rw [hlen]; simp
        have Hlen := Lib.hid hlen
        clear hlen
        obtain ⟨x, hx⟩ : ∃ x, x = chkV row := ⟨_, rfl⟩
        have Hx := Lib.hid hx
        have Hxr : Hid (chkRow n row = x) := by rw [Hid, hx]; unfold chkRow; rw [if_neg (by rw [← hn0.out]; simp [Hlen.out])]
        clear hx
        by_cases hx0 : x = 0
        · have e0 : (x != 0) = false := by rw [hx0]; rfl
          have Hx0 := Lib.hid hx0
          clear hx0
          go_wp2_with fail
          refine (vcheck_l Hrow.out (Bru.next HB.out Hbw.out)).mono ?_
          rw [← Hx.out]
          rintro e w1 ⟨rfl, hb⟩
          have Hb1 := Lib.hid (zaa Hbw.out hb)
          clear hb
          go_wp2_with fail
          go_roundw
          case rel =>
            refine ⟨k + 1, by omega, by go_num, Hb1.out, fun j hj => ?_⟩
            rcases Nat.lt_or_ge j k with h | h
            · exact Hrel.out j h
            · obtain rfl : j = k := by omega
              rw [getD_mapM Hrr.out, Hxr.out, Hx0.out]
          case measure => simp [intOf]; omega
        · have e0 : (x != 0) = true := bne_iff_ne.2 hx0
          have Hfin : Hid (chkM m = x) := by
            rw [Hid, Hr.out]
            exact fstE_at Hrel.out (by rw [List.getElem?_map, Hrr.out, ← Hxr.out]; rfl) hx0
          clear hx0
          go_wp2_with fail
          refine (vcheck_l Hrow.out (Bru.next HB.out Hbw.out)).mono ?_
          rw [← Hx.out]
          rintro e w1 ⟨rfl, hb⟩
          have Hb1 := Lib.hid (zaa Hbw.out hb)
          clear hb
          go_wp2_with fail
          go_ret
          exact ⟨zbc Hfin.out.symm, Hb1.out⟩
      · obtain rfl : k = m.length := by omega
        have Hfin : Hid (chkM m = 0) := by
          rw [Hid, Hr.out]
          exact fstE_all (by rw [List.length_map]; exact Hrel.out)
        clear hbw
        go_wp2_with fail
        go_ret
        exact ⟨zbc Hfin.out.symm, Hbw.out⟩
theorem rat_info : (Tryd.prog.info? 50).map (fun i => (i.zero, i.size, i.bytes)) = some (some (.agg #[.bool false, .slice none 0 0, .slice none 0 0]), 3, 56) := by kernel_rfl
theorem elR : ElN Tryd.prog 29 50 3 56 :=
  ⟨Tryd.underlying29, by obtain ⟨i, h1, h2, h3, h4⟩ := info_parts rat_info; exact ⟨i, _, h1, h2, h3, h4, rfl⟩, by omega⟩
theorem zfd {l : List Rat} {j : Nat} (h : j < l.length) : ∃ q, l[j]? = some q ∧ (rawV l)[j]? = some (raw q) := ⟨l[j], List.getElem?_eq_getElem h, by simp [rawV, List.getElem?_eq_getElem h]⟩
theorem zeu {α : Type} {l : List α} {k : Nat} {x : α} (h : l[k]? = some x) : l.take (k + 1) = l.take k ++ [x] := by
  obtain ⟨hk, rfl⟩ := List.getElem?_eq_some_iff.1 h
  exact List.take_succ_eq_append_getElem hk
theorem isR_isQ {w : World} {S : Nat → Prop} {v : Value} {q : Rat} (h : IsR w S v (raw q)) : IsQ w S v q := h
theorem rawM_get {m : List (List Rat)} {j : Nat} (h : j < m.length) : ∃ row, m[j]? = some row ∧ (rawM m)[j]? = some (rawV row) := ⟨m[j], List.getElem?_eq_getElem h, by simp [rawM, List.getElem?_eq_getElem h]⟩
end Go.Proofs.YtblpaocignlpkaaDoor
namespace Go.Proofs.YtblpaocignlpkaaDoor
section
variable {P : Program} {ops : Array Oper} {md : Region.Mode} {w : World} {m : Nat}
end
end Go.Proofs.YtblpaocignlpkaaDoor
namespace Go.Proofs.YtblpaocignlpkaaDoor
open Go.RowKit Go.Shelf
attribute [local go_sem] Oper.semAt_some
set_option linter.unusedVariables false
abbrev S3 := Option Addr × Nat × Nat
abbrev Q3 := Bool × S3 × S3
def q3 (x : Q3) : Value := .agg #[.bool x.1, .slice x.2.1.1 x.2.1.2.1 x.2.1.2.2, .slice x.2.2.1 x.2.2.2.1 x.2.2.2.2]
theorem keepN {w w' : World} {n b o : Nat} {v : Value} (hb : Below n w w') (hn : b < n) (h : w.cell? ⟨b, o, none⟩ = some v) : w'.cell? ⟨b, o, none⟩ = some v := (hb.cell (p := ⟨b, o, none⟩) hn).trans h
def Els3 (w : World) (n₀ : Nat) (A : Option Addr) (es : List Q3) : Prop := ∀ (j : Nat) (e : Q3), es[j]? = some e → ∃ b off, A = some ⟨b, off, none⟩ ∧ b < n₀ ∧
  w.cell? ⟨b, off + j * 3, none⟩ = some (.bool e.1) ∧ w.cell? ⟨b, off + j * 3 + 1, none⟩ = some (.slice e.2.1.1 e.2.1.2.1 e.2.1.2.2) ∧ w.cell? ⟨b, off + j * 3 + 2, none⟩ = some (.slice e.2.2.1 e.2.2.2.1 e.2.2.2.2)
def Els1 (w : World) (n₀ : Nat) (A : Option Addr) (es : List Value) : Prop := ∀ (j : Nat) (e : Value), es[j]? = some e → ∃ b off, A = some ⟨b, off, none⟩ ∧ b < n₀ ∧ w.cell? ⟨b, off + j, none⟩ = some e
theorem Els3.below {w w' : World} {n₀ : Nat} {A : Option Addr} {es : List Q3} (h : Els3 w n₀ A es) (hb : Below w.heap.size w w') (hn : n₀ ≤ w.heap.size) : Els3 w' n₀ A es := fun j e he => by
  obtain ⟨b, off, h1, h2, h4, h5, h6⟩ := h j e he
  exact ⟨b, off, h1, h2, keepN hb (by omega) h4, keepN hb (by omega) h5, keepN hb (by omega) h6⟩
theorem Els1.below {w w' : World} {n₀ : Nat} {A : Option Addr} {es : List Value} (h : Els1 w n₀ A es) (hb : Below w.heap.size w w') (hn : n₀ ≤ w.heap.size) : Els1 w' n₀ A es := fun j e he => by
  obtain ⟨b, off, h1, h2, h4⟩ := h j e he
  exact ⟨b, off, h1, h2, keepN hb (by omega) h4⟩
end Go.Proofs.YtblpaocignlpkaaDoor
namespace Go.Proofs.YtblpaocignlpkaaDoor
open Go.RowKit
set_option linter.unusedVariables false
theorem words_i (w : World) (neg : Bool) (n d : Int) (q : Rat) (hB : Bru w) (hn0 : 1 ≤ n) (hd0 : 1 ≤ d) (hn : n ≤ 18446744073709551615) (hd : d ≤ 18446744073709551615) (hq : q = mkRat (sg neg n.toNat) d.toNat) :
    Calls Tryd.prog 124 #[.bool neg, .int .u64 n, .int .u64 d] w (RetQ w q) := by
  obtain ⟨m, rfl⟩ := Int.eq_ofNat_of_zero_le (by omega : 0 ≤ n)
  obtain ⟨k, rfl⟩ := Int.eq_ofNat_of_zero_le (by omega : 0 ≤ d)
  rw [hq]
  exact words_q w neg m k hB (by omega) (by omega) (by omega) (by omega)
theorem prod_limb {x y : Int} (hx : 1 ≤ x) (hx9 : x ≤ 999999999) (hy : 1 ≤ y) (hy9 : y ≤ 999999999) : 1 ≤ x * y ∧ x * y ≤ 999999998000000001 := by
  refine ⟨?_, (zcc (by omega) hx9 (by omega) hy9).2⟩
  have := Int.mul_le_mul hx hy (by omega) (by omega)
  omega
set_option maxRecDepth 100000 in
set_option maxHeartbeats 1000000 in
theorem plusWords_q {w : World} {va vb : Value} {qa qb qc : Rat} (ha : IsQ w (Old w) va qa) (hb : IsQ w (Old w) vb qb) (hB : Bru w) (h1 : OneL qa qb) (hc : qc = qa + qb) : Calls Tryd.prog 117 #[va, vb] w (RetQ w qc) := by
  have HQa := Lib.hid ha
  obtain ⟨nega, Aa, cAa, Ba, cBa, rfl, Hnega, Hna, Hda⟩ := zam ha
  have HQb := Lib.hid hb
  obtain ⟨negb, Ab, cAb, Bb, cBb, rfl, Hnegb, Hnb, Hdb⟩ := zam hb
  obtain ⟨l1, l2, l3, l4⟩ := h1
  obtain ⟨b1, o1, rfl, u1, g1, s1⟩ := zfa Hna.out l1
  obtain ⟨b2, o2, rfl, u2, g2, s2⟩ := zfa Hda.out l2
  obtain ⟨b3, o3, rfl, u3, g3, s3⟩ := zfa Hnb.out l3
  obtain ⟨b4, o4, rfl, u4, g4, s4⟩ := zfa Hdb.out l4
  have hover := @plus_over qa qb nega negb
  have Hov : Hid (∀ (neg : Bool) (n : Nat), sg neg n = sg nega (qa.num.natAbs * qb.den) + sg negb (qb.num.natAbs * qa.den) → mkRat (sg neg n) (qa.den * qb.den) = qc) := fun neg n h => by rw [hc]; exact plus_over Hnega.out Hnegb.out h
  have Hc := Lib.hid hc
  rw [l1] at HQa
  rw [l2] at HQa
  rw [l3] at HQb
  rw [l4] at HQb
  rw [l1, l2, l3, l4]
  clear ha hb hover hc Hna Hda Hnb Hdb Hnega Hnegb l1 l2 l3 l4
  obtain ⟨w0, hw0, hb0, ra, rb, rZ, Hz⟩ := zfp w #[.bool nega, .slice (some ⟨b1, o1, none⟩) 1 cAa, .slice (some ⟨b2, o2, none⟩) 1 cBa] #[.bool negb, .slice (some ⟨b3, o3, none⟩) 1 cAb, .slice (some ⟨b4, o4, none⟩) 1 cBb] #[.bool false, .slice none 0 0, .slice none 0 0] 50 50 50
  have v1 := zab hb0 u1
  have v2 := zab hb0 u2
  have v3 := zab hb0 u3
  have v4 := zab hb0 u4
  clear u1 u2 u3 u4
  have Ra_0 := Lib.hid (ra)
  have Rb_0 := Lib.hid (rb)
  have Z_0 := Lib.hid (rZ)
  have bw_0 := Lib.hid (hb0)
  have sz_0 : Hid (w.heap.size + 3 ≤ w0.heap.size) := Lib.hid (Nat.le_of_eq Hz.out.symm)
  have B_0 := Lib.hid (Bru.next hB hb0)
  clear ra rb rZ hb0 hB
  obtain ⟨cRa0_1, cRa1_1, cRa2_1⟩ := zad Ra_0.out
  obtain ⟨cRb0_2, cRb1_2, cRb2_2⟩ := zad Rb_0.out
  obtain ⟨cZ0_3, cZ1_3, cZ2_3⟩ := zad Z_0.out
  obtain ⟨fZ0_3, fZ1_3, fZ2_3⟩ := zaq Z_0.out
  obtain ⟨x, hx⟩ : ∃ x : Int, x = (qa.num.natAbs : Int) * (qb.den : Int) := ⟨_, rfl⟩
  obtain ⟨y, hy⟩ : ∃ y : Int, y = (qb.num.natAbs : Int) * (qa.den : Int) := ⟨_, rfl⟩
  obtain ⟨d, hd⟩ : ∃ d : Int, d = (qa.den : Int) * (qb.den : Int) := ⟨_, rfl⟩
  obtain ⟨x0, x9⟩ := prod_limb g1 s1 g4 s4
  obtain ⟨y0, y9⟩ := prod_limb g3 s3 g2 s2
  obtain ⟨d0, d9⟩ := prod_limb g2 s2 g4 s4
  rw [← hx] at x0 x9
  rw [← hy] at y0 y9
  rw [← hd] at d0 d9
  have Hx : Hid (x.toNat = qa.num.natAbs * qb.den) := by rw [hx]; exact Int.toNat_natCast _
  have Hy : Hid (y.toNat = qb.num.natAbs * qa.den) := by rw [hy]; exact Int.toNat_natCast _
  have Hd : Hid (d.toNat = qa.den * qb.den) := by rw [hd]; exact Int.toNat_natCast _
  have e1 : IntKind.u64.wrap (qa.num.natAbs : Int) = (qa.num.natAbs : Int) := IntWalk.u64_in _ (by omega)
  have e2 : IntKind.u64.wrap (qa.den : Int) = (qa.den : Int) := IntWalk.u64_in _ (by omega)
  have e3 : IntKind.u64.wrap (qb.num.natAbs : Int) = (qb.num.natAbs : Int) := IntWalk.u64_in _ (by omega)
  have e4 : IntKind.u64.wrap (qb.den : Int) = (qb.den : Int) := IntWalk.u64_in _ (by omega)
  have k1 : IntKind.u64.wrap ((qa.num.natAbs : Int) * (qb.den : Int)) = x := by rw [hx]; exact IntWalk.u64_in _ (by rw [← hx]; omega)
  have k2 : IntKind.u64.wrap ((qb.num.natAbs : Int) * (qa.den : Int)) = y := by rw [hy]; exact IntWalk.u64_in _ (by rw [← hy]; omega)
  have k3 : IntKind.u64.wrap ((qa.den : Int) * (qb.den : Int)) = d := by rw [hd]; exact IntWalk.u64_in _ (by rw [← hd]; omega)
  clear hx hy hd
  go_enter Tryd.func117, Tryd.ntmps117
  go_wp2_with fail
  clear hw0
  rcases (by cases nega <;> cases negb <;> simp : (nega == negb) = true ∨ (nega == negb) = false) with hs | hs
  · have Hs : Hid (negb = nega) := by unfold Hid; cases nega <;> cases negb <;> simp at hs ⊢
    have Hq : Hid (qc = mkRat (sg nega (x + y).toNat) d.toNat) := by rw [Hid, Hd.out]; refine (Hov.out _ _ ?_).symm; rw [Hs.out, ← sg_add, ← Hx.out, ← Hy.out]; congr 1; omega
    go_quiet (fail)
    go_wp2_with fail
    go_quiet (fail)
    go_wp2_with fail
    refine (words_i _ nega (x + y) d qc (Bru.drewN B_0.out _) (by omega) (by omega) (by omega) (by omega) Hq.out).mono ?_
    rintro e w1 ⟨⟨v1, rfl, hv⟩, hb⟩
    have newV := Lib.hid (IsQ.stb.le hv sz_0.out)
    have Ra_1 := Lib.hid (Row.next Ra_0.out (zbr hb))
    have Rb_1 := Lib.hid (Row.next Rb_0.out (zbr hb))
    have Z_1 := Lib.hid (Row.next Z_0.out (zbr hb))
    have bw_1 := Lib.hid (zaa bw_0.out (zbr hb))
    have sz_1 := Lib.hid (zai sz_0.out (zbr hb))
    have B_1 := Lib.hid (Bru.next B_0.out (zbr hb))
    clear Ra_0 Rb_0 Z_0 bw_0 sz_0 B_0
    have V_0 := newV
    clear newV
    obtain ⟨s1, P1, k1, O1, l1, rfl, _, _, _⟩ := zam hv
    clear cRa0_1 cRa1_1 cRa2_1 cRb0_2 cRb1_2 cRb2_2 cZ0_3 cZ1_3 cZ2_3 fZ0_3 fZ1_3 fZ2_3
    obtain ⟨cRa0_4, cRa1_4, cRa2_4⟩ := zad Ra_1.out
    obtain ⟨cRb0_5, cRb1_5, cRb2_5⟩ := zad Rb_1.out
    obtain ⟨cZ0_6, cZ1_6, cZ2_6⟩ := zad Z_1.out
    obtain ⟨fZ0_6, fZ1_6, fZ2_6⟩ := zaq Z_1.out
    go_wp2_with fail
    refine zbb Tryd.results117 rfl rfl (Row.put3 Z_1.out _ _ _) (zew V_0.out bw_1.out (by omega) (by omega))
  · have Hs : Hid (negb = !nega) := by unfold Hid; cases nega <;> cases negb <;> simp at hs ⊢
    rcases Int.lt_trichotomy x y with hxy | hxy | hxy
    · have Hq : Hid (qc = mkRat (sg negb (y - x).toNat) d.toNat) := by rw [Hid, Hd.out]; refine (Hov.out _ _ ?_).symm; rw [Hs.out, ← Hx.out, ← Hy.out, show (y - x).toNat = y.toNat - x.toNat from by omega, sg_sub' (by omega)]; simp
      have hxy1 : (x == y) = false := beq_eq_false_iff_ne.2 (by omega)
      go_quiet (fail)
      go_wp2_with fail
      go_quiet (fail)
      go_wp2_with fail
      refine (words_i _ negb (y - x) d qc (Bru.drewN B_0.out _) (by omega) (by omega) (by omega) (by omega) Hq.out).mono ?_
      rintro e w1 ⟨⟨v1, rfl, hv⟩, hb⟩
      have newV := Lib.hid (IsQ.stb.le hv sz_0.out)
      have Ra_1 := Lib.hid (Row.next Ra_0.out (zbr hb))
      have Rb_1 := Lib.hid (Row.next Rb_0.out (zbr hb))
      have Z_1 := Lib.hid (Row.next Z_0.out (zbr hb))
      have bw_1 := Lib.hid (zaa bw_0.out (zbr hb))
      have sz_1 := Lib.hid (zai sz_0.out (zbr hb))
      have B_1 := Lib.hid (Bru.next B_0.out (zbr hb))
      clear Ra_0 Rb_0 Z_0 bw_0 sz_0 B_0
      have V_0 := newV
      clear newV
      obtain ⟨s1, P1, k1, O1, l1, rfl, _, _, _⟩ := zam hv
      clear cRa0_1 cRa1_1 cRa2_1 cRb0_2 cRb1_2 cRb2_2 cZ0_3 cZ1_3 cZ2_3 fZ0_3 fZ1_3 fZ2_3
      obtain ⟨cRa0_4, cRa1_4, cRa2_4⟩ := zad Ra_1.out
      obtain ⟨cRb0_5, cRb1_5, cRb2_5⟩ := zad Rb_1.out
      obtain ⟨cZ0_6, cZ1_6, cZ2_6⟩ := zad Z_1.out
      obtain ⟨fZ0_6, fZ1_6, fZ2_6⟩ := zaq Z_1.out
      go_wp2_with fail
      refine zbb Tryd.results117 rfl rfl (Row.put3 Z_1.out _ _ _) (zew V_0.out bw_1.out (by omega) (by omega))
    · have Hq : Hid (qc = 0) := by rw [Hid, ← Hov.out true 0 (by rw [Hs.out, ← Hx.out, ← Hy.out, hxy, sg_not]; simp [sg]; omega)]; simp [sg]
      have hxy1 : (x == y) = true := beq_iff_eq.2 hxy
      have Hxy := Lib.hid hxy
      clear hxy
      go_quiet (fail)
      go_wp2_with fail
      go_quiet (fail)
      go_wp2_with fail
      refine (zero_q _).mono ?_
      rintro e w1 ⟨⟨v1, rfl, hv⟩, hb⟩
      have newV := Lib.hid (IsQ.stb.le hv sz_0.out)
      have Ra_1 := Lib.hid (Row.next Ra_0.out (zbr hb))
      have Rb_1 := Lib.hid (Row.next Rb_0.out (zbr hb))
      have Z_1 := Lib.hid (Row.next Z_0.out (zbr hb))
      have bw_1 := Lib.hid (zaa bw_0.out (zbr hb))
      have sz_1 := Lib.hid (zai sz_0.out (zbr hb))
      have B_1 := Lib.hid (Bru.next B_0.out (zbr hb))
      clear Ra_0 Rb_0 Z_0 bw_0 sz_0 B_0
      have V_0 := newV
      clear newV
      obtain ⟨s1, P1, k1, O1, l1, rfl, _, _, _⟩ := zam hv
      clear cRa0_1 cRa1_1 cRa2_1 cRb0_2 cRb1_2 cRb2_2 cZ0_3 cZ1_3 cZ2_3 fZ0_3 fZ1_3 fZ2_3
      obtain ⟨cRa0_4, cRa1_4, cRa2_4⟩ := zad Ra_1.out
      obtain ⟨cRb0_5, cRb1_5, cRb2_5⟩ := zad Rb_1.out
      obtain ⟨cZ0_6, cZ1_6, cZ2_6⟩ := zad Z_1.out
      obtain ⟨fZ0_6, fZ1_6, fZ2_6⟩ := zaq Z_1.out
      go_wp2_with fail
      rw [Hq.out]
      refine zbb Tryd.results117 rfl rfl (Row.put3 Z_1.out _ _ _) (zew V_0.out bw_1.out (by omega) (by omega))
    · have Hq : Hid (qc = mkRat (sg nega (x - y).toNat) d.toNat) := by rw [Hid, Hd.out]; refine (Hov.out _ _ ?_).symm; rw [Hs.out, ← Hx.out, ← Hy.out, show (x - y).toNat = x.toNat - y.toNat from by omega, sg_sub (by omega)]
      have hxy1 : (x == y) = false := beq_eq_false_iff_ne.2 (by omega)
      go_quiet (fail)
      go_wp2_with fail
      go_quiet (fail)
      go_wp2_with fail
      refine (words_i _ nega (x - y) d qc (Bru.drewN B_0.out _) (by omega) (by omega) (by omega) (by omega) Hq.out).mono ?_
      rintro e w1 ⟨⟨v1, rfl, hv⟩, hb⟩
      have newV := Lib.hid (IsQ.stb.le hv sz_0.out)
      have Ra_1 := Lib.hid (Row.next Ra_0.out (zbr hb))
      have Rb_1 := Lib.hid (Row.next Rb_0.out (zbr hb))
      have Z_1 := Lib.hid (Row.next Z_0.out (zbr hb))
      have bw_1 := Lib.hid (zaa bw_0.out (zbr hb))
      have sz_1 := Lib.hid (zai sz_0.out (zbr hb))
      have B_1 := Lib.hid (Bru.next B_0.out (zbr hb))
      clear Ra_0 Rb_0 Z_0 bw_0 sz_0 B_0
      have V_0 := newV
      clear newV
      obtain ⟨s1, P1, k1, O1, l1, rfl, _, _, _⟩ := zam hv
      clear cRa0_1 cRa1_1 cRa2_1 cRb0_2 cRb1_2 cRb2_2 cZ0_3 cZ1_3 cZ2_3 fZ0_3 fZ1_3 fZ2_3
      obtain ⟨cRa0_4, cRa1_4, cRa2_4⟩ := zad Ra_1.out
      obtain ⟨cRb0_5, cRb1_5, cRb2_5⟩ := zad Rb_1.out
      obtain ⟨cZ0_6, cZ1_6, cZ2_6⟩ := zad Z_1.out
      obtain ⟨fZ0_6, fZ1_6, fZ2_6⟩ := zaq Z_1.out
      go_wp2_with fail
      refine zbb Tryd.results117 rfl rfl (Row.put3 Z_1.out _ _ _) (zew V_0.out bw_1.out (by omega) (by omega))
end Go.Proofs.YtblpaocignlpkaaDoor
