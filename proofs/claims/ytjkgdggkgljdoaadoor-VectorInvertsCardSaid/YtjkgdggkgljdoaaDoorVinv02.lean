/-
  Plain facts on rational numbers as a sign, a list of limbs above and one below the stroke; no program in sight.
-/
import Derived.Test.YtjkgdggkgljdoaaDoorVinv01
import Derived.Test.YtjkgdggkgljdoaaDoorChecked
import Derived.WalkKit
import Derived.Lib.TrailingZeros
import Derived.Laws.Bits64b
import Derived.Deep.RegionHeld3
namespace Go.Proofs.YtjkgdggkgljdoaaDoor
set_option linter.unusedVariables false
def sg (neg : Bool) (n : Nat) : Int := if neg then -(n : Int) else n
theorem sg_false (n : Nat) : sg false n = n := rfl
theorem sg_true (n : Nat) : sg true n = -(n : Int) := rfl
theorem sg_natAbs (neg : Bool) (n : Nat) : (sg neg n).natAbs = n := by cases neg <;> simp [sg]
theorem sg_zero (neg : Bool) : sg neg 0 = 0 := by cases neg <;> simp [sg]
theorem sg_neg {neg : Bool} {n : Nat} (h : n ≠ 0) : decide (sg neg n < 0) = neg := by cases neg <;> simp [sg] <;> omega
theorem sg_of (i : Int) : sg (decide (i < 0)) i.natAbs = i := by
  unfold sg
  by_cases h : i < 0 <;> simp [h] <;> omega
theorem sg_not (neg : Bool) (n : Nat) : sg (!neg) n = -sg neg n := by cases neg <;> simp [sg]
theorem sg_mul (a b : Bool) (m n : Nat) : sg (a != b) (m * n) = sg a m * sg b n := by cases a <;> cases b <;> simp [sg, Int.neg_mul, Int.mul_neg]
theorem sg_mulr (a : Bool) (m n : Nat) : sg a (m * n) = sg a m * n := by cases a <;> simp [sg, Int.neg_mul]
theorem sg_add (a : Bool) (m n : Nat) : sg a (m + n) = sg a m + sg a n := by cases a <;> simp [sg] <;> omega
theorem sg_sub {a : Bool} {m n : Nat} (h : n ≤ m) : sg a (m - n) = sg a m + sg (!a) n := by cases a <;> simp [sg] <;> omega
theorem sg_sub' {a : Bool} {m n : Nat} (h : n ≤ m) : sg a (m - n) = sg (!a) n + sg a m := by cases a <;> simp [sg] <;> omega
structure Raw where
  neg : Bool
  num : List Nat
  den : List Nat
deriving DecidableEq
def raw (q : Rat) : Raw := ⟨decide (q.num < 0), lim q.num.natAbs, lim q.den⟩
theorem mk_lowest {neg : Bool} {n d : Nat} (hd : d ≠ 0) (hg : Nat.gcd n d = 1) : (mkRat (sg neg n) d).num = sg neg n ∧ (mkRat (sg neg n) d).den = d := by
  have h := Rat.mk_eq_mkRat (sg neg n) d hd (by rw [sg_natAbs]; exact hg)
  rw [← h]
  exact ⟨rfl, rfl⟩
theorem raw_mk {neg : Bool} {n d : Nat} (hd : d ≠ 0) (hg : Nat.gcd n d = 1) (hn : n = 0 → neg = false) : raw (mkRat (sg neg n) d) = ⟨neg, lim n, lim d⟩ := by
  obtain ⟨h1, h2⟩ := mk_lowest (neg := neg) hd hg
  unfold raw
  rw [h1, h2, sg_natAbs]
  congr 1
  by_cases h : n = 0
  · rw [hn h, h]; rfl
  · exact sg_neg h
theorem raw_zero : raw 0 = ⟨false, [], [1]⟩ := by
  unfold raw
  rw [show (0 : Rat).num = 0 from rfl, show (0 : Rat).den = 1 from rfl, show (0 : Int).natAbs = 0 from rfl, zbd, lim_small (n := 1) (by omega) (by omega)]
  rfl
theorem zde : lim 1 = [1] := lim_small (by omega) (by omega)
theorem mk_scale {i : Int} {d k : Nat} (hk : k ≠ 0) : mkRat (i * k) (d * k) = mkRat i d := Rat.mkRat_mul_right hk
theorem mk_reduce {neg : Bool} {n d g : Nat} (hd : d ≠ 0) (h1 : g ∣ n) (h2 : g ∣ d) : mkRat (sg neg n) d = mkRat (sg neg (n / g)) (d / g) := by
  have hg : g ≠ 0 := by rintro rfl; exact hd (Nat.eq_zero_of_zero_dvd h2)
  rw [← mk_scale (i := sg neg (n / g)) (d := d / g) hg, ← sg_mulr, Nat.div_mul_cancel h1, Nat.div_mul_cancel h2]
theorem gcd_div {n d : Nat} (hd : d ≠ 0) : Nat.gcd (n / Nat.gcd n d) (d / Nat.gcd n d) = 1 :=
  Nat.gcd_div_gcd_div_gcd_of_pos_right (by omega)
theorem raw_ratio {neg : Bool} {n d : Nat} (hn : n ≠ 0) (hd : d ≠ 0) : raw (mkRat (sg neg n) d) = ⟨neg, lim (n / Nat.gcd n d), lim (d / Nat.gcd n d)⟩ := by
  have hg : 0 < Nat.gcd n d := Nat.gcd_pos_of_pos_right _ (by omega)
  rw [mk_reduce hd (Nat.gcd_dvd_left n d) (Nat.gcd_dvd_right n d)]
  refine raw_mk ?_ (gcd_div hd) ?_
  · have := Nat.div_pos (Nat.le_of_dvd (by omega) (Nat.gcd_dvd_right n d)) hg
    omega
  · intro h
    have := Nat.div_pos (Nat.le_of_dvd (by omega) (Nat.gcd_dvd_left n d)) hg
    omega
theorem den_pos (q : Rat) : 0 < q.den := Nat.pos_of_ne_zero q.den_nz
theorem cop (q : Rat) : Nat.gcd q.num.natAbs q.den = 1 := q.reduced
theorem zfc {q : Rat} (h : q ≠ 0) : q.num.natAbs ≠ 0 := fun e => h (Rat.num_eq_zero.1 (by omega))
theorem num_zero_iff {q : Rat} : q.num.natAbs = 0 ↔ q = 0 := ⟨fun h => Rat.num_eq_zero.1 (by omega), fun h => by subst h; rfl⟩
theorem raw_num_nil {q : Rat} : (raw q).num = [] ↔ q = 0 := by
  unfold raw
  rw [← num_zero_iff, ← lim_nil_iff]
  exact List.length_eq_zero_iff.symm
theorem raw_neg {q : Rat} : (raw q).neg = decide (q < 0) := by
  unfold raw
  simp only [decide_eq_decide]
  rw [Rat.lt_iff]
  simp
theorem num_lt (q : Rat) : decide (q.num < 0) = decide (q < 0) := raw_neg (q := q)
def Sz (q : Rat) (k : Nat) : Prop := (lim q.num.natAbs).length ≤ k ∧ (lim q.den).length ≤ k
theorem Sz.le {q : Rat} {k l : Nat} (h : Sz q k) (hl : k ≤ l) : Sz q l := ⟨Nat.le_trans h.1 hl, Nat.le_trans h.2 hl⟩
theorem sz_of_mk {i : Int} {d k : Nat} (hd : d ≠ 0) (h1 : (lim i.natAbs).length ≤ k) (h2 : (lim d).length ≤ k) : Sz (mkRat i d) k := by
  unfold Sz
  rw [Rat.num_mkRat, Rat.den_mkRat, if_neg hd, if_neg hd]
  refine ⟨Nat.le_trans (zas ?_) h1, Nat.le_trans (zas (Nat.div_le_self _ _)) h2⟩
  rw [Int.natAbs_ediv_of_dvd (Int.dvd_natAbs.1 (Int.natCast_dvd_natCast.2 (Nat.gcd_dvd_right d i.natAbs))), Int.natAbs_natCast]
  exact Nat.div_le_self _ _
theorem Sz.zero : Sz 0 1 := ⟨by rw [show (0 : Rat).num.natAbs = 0 from rfl, zbd]; decide, by rw [show (0 : Rat).den = 1 from rfl, zde]; decide⟩
theorem Sz.neg {q : Rat} {k : Nat} (h : Sz q k) : Sz (-q) k := by
  unfold Sz at *
  rw [Rat.neg_num, Rat.neg_den, Int.natAbs_neg]
  exact h
theorem Sz.mul {p q : Rat} {k l : Nat} (h1 : Sz p k) (h2 : Sz q l) : Sz (p * q) (k + l) := by
  rw [Rat.mul_def']
  refine sz_of_mk (Nat.mul_ne_zero p.den_nz q.den_nz) ?_ ?_
  · rw [Int.natAbs_mul]; exact sz_mul h1.1 h2.1
  · exact sz_mul h1.2 h2.2
theorem Sz.add {p q : Rat} {k l : Nat} (h1 : Sz p k) (h2 : Sz q l) : Sz (p + q) (k + l + 1) := by
  rw [Rat.add_def']
  refine sz_of_mk (Nat.mul_ne_zero p.den_nz q.den_nz) ?_ (Nat.le_trans (sz_mul h1.2 h2.2) (by omega))
  refine Nat.le_trans (zas (Int.natAbs_add_le _ _)) ?_
  rw [Int.natAbs_mul, Int.natAbs_mul, Int.natAbs_natCast, Int.natAbs_natCast]
  refine sz_add (sz_mul h1.1 h2.2) ?_
  rw [Nat.add_comm k l]
  exact sz_mul h2.1 h1.2
theorem cop_left {a b c : Nat} (h : Nat.gcd a (b * c) = 1) : Nat.gcd a b = 1 := Nat.Coprime.coprime_dvd_right (Nat.dvd_mul_right b c) h
theorem plus_gcd {i j : Int} {a b : Nat} (ha : a ≠ 0) (h1 : Nat.gcd i.natAbs a = 1) (h2 : Nat.gcd j.natAbs b = 1) :
    Nat.gcd (i * ((b / Nat.gcd a b : Nat) : Int) + j * ((a / Nat.gcd a b : Nat) : Int)).natAbs (a / Nat.gcd a b) = 1 ∧ Nat.gcd (i * ((b / Nat.gcd a b : Nat) : Int) + j * ((a / Nat.gcd a b : Nat) : Int)).natAbs (b / Nat.gcd a b) = 1 := by
  have hg : 0 < Nat.gcd a b := Nat.gcd_pos_of_pos_left _ (by omega)
  have hc : Nat.gcd (a / Nat.gcd a b) (b / Nat.gcd a b) = 1 := Nat.gcd_div_gcd_div_gcd_of_pos_left (by omega)
  have ea : a = a / Nat.gcd a b * Nat.gcd a b := (Nat.div_mul_cancel (Nat.gcd_dvd_left a b)).symm
  have eb : b = b / Nat.gcd a b * Nat.gcd a b := (Nat.div_mul_cancel (Nat.gcd_dvd_right a b)).symm
  generalize a / Nat.gcd a b = a' at *
  generalize b / Nat.gcd a b = b' at *
  have h1' : Nat.gcd i.natAbs a' = 1 := by rw [ea] at h1; exact cop_left h1
  have h2' : Nat.gcd j.natAbs b' = 1 := by rw [eb] at h2; exact cop_left h2
  constructor
  · have h : Int.gcd (i * (b' : Int) + j * (a' : Int)) (a' : Int) = 1 := by
      rw [Int.gcd_add_mul_right_left]
      rw [Int.gcd, Int.natAbs_mul, Int.natAbs_natCast, Int.natAbs_natCast]
      exact Nat.Coprime.mul_left h1' (by rw [Nat.coprime_comm]; exact hc)
    simpa [Int.gcd] using h
  · have h : Int.gcd (i * (b' : Int) + j * (a' : Int)) (b' : Int) = 1 := by
      rw [Int.add_comm, Int.gcd_add_mul_right_left]
      rw [Int.gcd, Int.natAbs_mul, Int.natAbs_natCast, Int.natAbs_natCast]
      exact Nat.Coprime.mul_left h2' hc
    simpa [Int.gcd] using h
theorem dvd_ne {g d : Nat} (h : g ∣ d) (hd : d ≠ 0) : g ≠ 0 ∧ d / g ≠ 0 := by
  have hg : g ≠ 0 := by rintro rfl; exact hd (Nat.eq_zero_of_zero_dvd h)
  have := Nat.div_pos (Nat.le_of_dvd (by omega) h) (by omega)
  exact ⟨hg, by omega⟩
theorem sum_over {i j : Int} {a b : Nat} (ha : a ≠ 0) (hb : b ≠ 0) :
    mkRat i a + mkRat j b = mkRat (i * ((b / Nat.gcd a b : Nat) : Int) + j * ((a / Nat.gcd a b : Nat) : Int)) (a / Nat.gcd a b * b) := by
  have hg := dvd_ne (Nat.gcd_dvd_left a b) ha
  have hn : Nat.gcd a b ≠ 0 := hg.1
  have ea : a = a / Nat.gcd a b * Nat.gcd a b := (Nat.div_mul_cancel (Nat.gcd_dvd_left a b)).symm
  have eb : b = b / Nat.gcd a b * Nat.gcd a b := (Nat.div_mul_cancel (Nat.gcd_dvd_right a b)).symm
  rw [Rat.mkRat_add_mkRat _ _ ha hb, ← mk_scale (i := i * ((b / Nat.gcd a b : Nat) : Int) + j * ((a / Nat.gcd a b : Nat) : Int)) (d := a / Nat.gcd a b * b) hn]
  generalize a / Nat.gcd a b = a' at *
  generalize b / Nat.gcd a b = b' at *
  generalize Nat.gcd a b = g at *
  subst ea
  subst eb
  congr 1
  · push_cast
    grind
  · grind
theorem raw_plus {i j : Int} {a b n : Nat} {neg : Bool} (ha : a ≠ 0) (hb : b ≠ 0) (h1 : Nat.gcd i.natAbs a = 1) (h2 : Nat.gcd j.natAbs b = 1)
    (hn : sg neg n = i * ((b / Nat.gcd a b : Nat) : Int) + j * ((a / Nat.gcd a b : Nat) : Int)) (h0 : n ≠ 0) :
    raw (mkRat i a + mkRat j b) = ⟨neg, lim (n / Nat.gcd n (Nat.gcd a b)), lim (a / Nat.gcd a b * (b / Nat.gcd n (Nat.gcd a b)))⟩ := by
  have hg := dvd_ne (Nat.gcd_dvd_left a b) ha
  have hg2 := dvd_ne (Nat.gcd_dvd_right a b) hb
  obtain ⟨p1, p2⟩ := plus_gcd (i := i) (j := j) (b := b) ha h1 h2
  rw [← hn, sg_natAbs] at p1 p2
  rw [sum_over ha hb, ← hn]
  have eb : b = b / Nat.gcd a b * Nat.gcd a b := (Nat.div_mul_cancel (Nat.gcd_dvd_right a b)).symm
  generalize a / Nat.gcd a b = a' at *
  generalize hb' : b / Nat.gcd a b = b' at *
  generalize Nat.gcd a b = g at *
  have hd1 : Nat.gcd n g ∣ n := Nat.gcd_dvd_left n g
  have hd2 : Nat.gcd n g ∣ g := Nat.gcd_dvd_right n g
  have hdb : Nat.gcd n g ∣ b := by rw [eb]; exact Nat.dvd_trans hd2 (Nat.dvd_mul_left _ _)
  have hc := dvd_ne hd1 h0
  have hcb := dvd_ne hdb hb
  rw [mk_reduce (g := Nat.gcd n g) (Nat.mul_ne_zero hg.2 hb) hd1 (Nat.dvd_trans hdb (Nat.dvd_mul_left _ _)), Nat.mul_div_assoc _ hdb]
  refine raw_mk (Nat.mul_ne_zero hg.2 hcb.2) ?_ (fun h => absurd h hc.2)
  have e1 : b / Nat.gcd n g = b' * (g / Nat.gcd n g) := by rw [← Nat.mul_div_assoc _ hd2, ← eb]
  have hq : n / Nat.gcd n g ∣ n := ⟨Nat.gcd n g, (Nat.div_mul_cancel hd1).symm⟩
  rw [e1]
  refine Nat.Coprime.mul_right (Nat.Coprime.coprime_dvd_left hq p1) (Nat.Coprime.mul_right (Nat.Coprime.coprime_dvd_left hq p2) ?_)
  exact Nat.gcd_div_gcd_div_gcd_of_pos_left (by omega)
theorem plus_zero {i j : Int} {a b : Nat} (ha : a ≠ 0) (hb : b ≠ 0) (hn : i * ((b / Nat.gcd a b : Nat) : Int) + j * ((a / Nat.gcd a b : Nat) : Int) = 0) : mkRat i a + mkRat j b = 0 := by
  rw [sum_over ha hb, hn, Rat.zero_mkRat]
theorem raw_times {p q : Bool} {x y a b : Nat} (ha : a ≠ 0) (hb : b ≠ 0) (hx : x ≠ 0) (hy : y ≠ 0) (h1 : Nat.gcd x a = 1) (h2 : Nat.gcd y b = 1) :
    raw (mkRat (sg p x) a * mkRat (sg q y) b) = ⟨p != q, lim (x / Nat.gcd x b * (y / Nat.gcd y a)), lim (a / Nat.gcd y a * (b / Nat.gcd x b))⟩ := by
  have d1 : Nat.gcd x b ∣ x := Nat.gcd_dvd_left _ _
  have d2 : Nat.gcd x b ∣ b := Nat.gcd_dvd_right _ _
  have d3 : Nat.gcd y a ∣ y := Nat.gcd_dvd_left _ _
  have d4 : Nat.gcd y a ∣ a := Nat.gcd_dvd_right _ _
  have n1 := dvd_ne d1 hx
  have n2 := dvd_ne d2 hb
  have n3 := dvd_ne d3 hy
  have n4 := dvd_ne d4 ha
  rw [Rat.mkRat_mul_mkRat, ← sg_mul, mk_reduce (g := Nat.gcd x b * Nat.gcd y a) (Nat.mul_ne_zero ha hb) (Nat.mul_dvd_mul d1 d3) (by rw [Nat.mul_comm (Nat.gcd x b)]; exact Nat.mul_dvd_mul d4 d2)]
  have c1 : Nat.gcd (x / Nat.gcd x b) (b / Nat.gcd x b) = 1 := gcd_div hb
  have c2 : Nat.gcd (y / Nat.gcd y a) (a / Nat.gcd y a) = 1 := gcd_div ha
  have e1 : x * y / (Nat.gcd x b * Nat.gcd y a) = x / Nat.gcd x b * (y / Nat.gcd y a) := Nat.mul_div_mul_comm d1 d3
  have e2 : a * b / (Nat.gcd x b * Nat.gcd y a) = a / Nat.gcd y a * (b / Nat.gcd x b) := by rw [Nat.mul_comm (Nat.gcd x b)]; exact Nat.mul_div_mul_comm d4 d2
  rw [e1, e2]
  have q1 : x / Nat.gcd x b ∣ x := ⟨_, (Nat.div_mul_cancel d1).symm⟩
  have q2 : b / Nat.gcd x b ∣ b := ⟨_, (Nat.div_mul_cancel d2).symm⟩
  have q3 : y / Nat.gcd y a ∣ y := ⟨_, (Nat.div_mul_cancel d3).symm⟩
  have q4 : a / Nat.gcd y a ∣ a := ⟨_, (Nat.div_mul_cancel d4).symm⟩
  refine raw_mk (Nat.mul_ne_zero n4.2 n2.2) ?_ (fun h => absurd h (Nat.mul_ne_zero n1.2 n3.2))
  refine Nat.Coprime.mul_left (Nat.Coprime.mul_right ?_ c1) (Nat.Coprime.mul_right c2 ?_)
  · exact Nat.Coprime.coprime_dvd_left q1 (Nat.Coprime.coprime_dvd_right q4 h1)
  · exact Nat.Coprime.coprime_dvd_left q3 (Nat.Coprime.coprime_dvd_right q2 h2)
theorem raw_neg_q (q : Rat) : raw (-q) = ⟨!(raw q).neg && decide (q ≠ 0), (raw q).num, (raw q).den⟩ := by
  unfold raw
  rw [Rat.neg_num, Rat.neg_den, Int.natAbs_neg]
  congr 1
  by_cases h : q = 0
  · subst h; rfl
  · have := zfc h
    by_cases h2 : q.num < 0
    · simp [h, h2]; omega
    · simp [h, h2]; omega
def chkRaw (chk : List Nat → Int) (r : Raw) : Int :=
  if chk r.num ≠ 0 then chk r.num else if chk r.den ≠ 0 then chk r.den else if r.den = [] then 6 else if (r.num = [] ∧ r.neg = true) ∨ Nat.gcd (val r.num) (val r.den) ≠ 1 then 3 else 0
theorem chkRaw_raw {chk : List Nat → Int} {q : Rat} (h1 : chk (raw q).num = 0) (h2 : chk (raw q).den = 0) : chkRaw chk (raw q) = 0 := by
  unfold chkRaw
  rw [if_neg (by simp [h1]), if_neg (by simp [h2])]
  have hd : (raw q).den ≠ [] := by
    unfold raw
    intro e
    have := lim_nil_iff.1 (List.length_eq_zero_iff.2 e)
    exact q.den_nz this
  rw [if_neg hd, if_neg]
  rintro (⟨h, h'⟩ | h)
  · rw [raw_num_nil] at h
    subst h
    rw [raw_zero] at h'
    cases h'
  · unfold raw at h
    simp only [zbf] at h
    exact h (cop q)
end Go.Proofs.YtjkgdggkgljdoaaDoor
namespace Go.Proofs.YtjkgdggkgljdoaaDoor
open Go.RowKit
set_option linter.unusedVariables false
def Same (S T : Nat → Prop) (w w' : World) : Prop := ∀ b, S b → T b ∧ ∀ o, w'.cell? ⟨b, o, none⟩ = w.cell? ⟨b, o, none⟩
def Stb {α : Type} (R : World → (Nat → Prop) → Value → α → Prop) : Prop := ∀ (w w' : World) (S T : Nat → Prop) (v : Value) (x : α), R w S v x → Same S T w w' → R w' T v x
theorem Stb.to {α : Type} {R : World → (Nat → Prop) → Value → α → Prop} (hR : Stb R) {w w' : World} {S T : Nat → Prop} {v : Value} {x : α} (h : R w S v x) (hs : Same S T w w') : R w' T v x := hR w w' S T v x h hs
def SVS (w : World) (S : Nat → Prop) (A : Option Addr) (xs : List Value) : Prop :=
  xs ≠ [] → ∃ b off, A = some ⟨b, off, none⟩ ∧ S b ∧ ∀ j v, xs[j]? = some v → w.cell? ⟨b, off + j, none⟩ = some v
theorem SVS.same {w w' : World} {S T : Nat → Prop} {A : Option Addr} {xs : List Value} (h : SVS w S A xs) (hs : Same S T w w') : SVS w' T A xs := fun hx => by
  obtain ⟨b, off, hA, hb, hc⟩ := h hx
  exact ⟨b, off, hA, (hs b hb).1, fun j v hv => ((hs b hb).2 _).trans (hc j v hv)⟩
theorem SVS.nil {w : World} {S : Nat → Prop} {A : Option Addr} : SVS w S A [] := fun h => absurd rfl h
def All2 {α β : Type} (R : α → β → Prop) (a : List α) (b : List β) : Prop := a.length = b.length ∧ ∀ (j : Nat) (x : α) (y : β), a[j]? = some x → b[j]? = some y → R x y
theorem All2.nil {α β : Type} {R : α → β → Prop} : All2 R [] [] := ⟨rfl, fun j x y h => by simp at h⟩
theorem All2.snoc {α β : Type} {R : α → β → Prop} {a : List α} {b : List β} {x : α} {y : β} (h : All2 R a b) (hr : R x y) : All2 R (a ++ [x]) (b ++ [y]) := by
  refine ⟨by simp [h.1], fun j u v hu hv => ?_⟩
  rw [List.getElem?_append] at hu hv
  by_cases hj : j < a.length
  · rw [if_pos hj] at hu
    rw [if_pos (by rw [← h.1]; exact hj)] at hv
    exact h.2 j u v hu hv
  · rw [if_neg hj] at hu
    rw [if_neg (by rw [← h.1]; exact hj)] at hv
    have h0 : j - a.length = 0 := by
      rcases Nat.eq_zero_or_pos (j - a.length) with h1 | h1
      · exact h1
      · rw [List.getElem?_eq_none (by simp; omega)] at hu; cases hu
    rw [h0] at hu
    rw [← h.1, h0] at hv
    simp at hu hv
    rw [← hu, ← hv]
    exact hr
theorem All2.imp {α β : Type} {R Q : α → β → Prop} {a : List α} {b : List β} (h : All2 R a b) (hr : ∀ x y, R x y → Q x y) : All2 Q a b := ⟨h.1, fun j x y hx hy => hr x y (h.2 j x y hx hy)⟩
theorem All2.get {α β : Type} {R : α → β → Prop} {a : List α} {b : List β} (h : All2 R a b) {j : Nat} {y : β} (hy : b[j]? = some y) : ∃ x, a[j]? = some x ∧ R x y := by
  have hj : j < b.length := (List.getElem?_eq_some_iff.1 hy).1
  have hj' : j < a.length := by rw [h.1]; exact hj
  exact ⟨a[j], List.getElem?_eq_getElem hj', h.2 j _ _ (List.getElem?_eq_getElem hj') hy⟩
theorem All2.take {α β : Type} {R : α → β → Prop} {a : List α} {b : List β} (h : All2 R a b) (n : Nat) : All2 R (a.take n) (b.take n) := by
  refine ⟨by simp [h.1], fun j x y hx hy => ?_⟩
  rw [List.getElem?_take] at hx hy
  split at hx
  · rename_i hn
    rw [if_pos hn] at hy
    exact h.2 j x y hx hy
  · cases hx
theorem All2.drop {α β : Type} {R : α → β → Prop} {a : List α} {b : List β} (h : All2 R a b) (n : Nat) : All2 R (a.drop n) (b.drop n) := by
  refine ⟨by simp [h.1], fun j x y hx hy => ?_⟩
  rw [List.getElem?_drop] at hx hy
  exact h.2 _ x y hx hy
theorem All2.set {α β : Type} {R : α → β → Prop} {a : List α} {b : List β} {x : α} {y : β} (h : All2 R a b) (hr : R x y) (n : Nat) : All2 R (a.set n x) (b.set n y) := by
  refine ⟨by simp [h.1], fun j u v hu hv => ?_⟩
  rw [List.getElem?_set] at hu hv
  by_cases hn : n = j
  · rw [if_pos hn] at hu hv
    split at hu
    · split at hv
      · cases hu; cases hv; exact hr
      · cases hv
    · cases hu
  · rw [if_neg hn] at hu hv
    exact h.2 j u v hu hv
def cellsOf (es : List Value) : List Value := es.flatMap fun v => v.cells.toList
theorem cellsOf_append (a b : List Value) : cellsOf (a ++ b) = cellsOf a ++ cellsOf b := by simp [cellsOf]
theorem cellsOf_one (v : Value) : cellsOf [v] = v.cells.toList := by simp [cellsOf]
def Wid (n : Nat) (es : List Value) : Prop := ∀ v ∈ es, v.cells.size = n
theorem Wid.nil {n : Nat} : Wid n [] := by intro v hv; cases hv
theorem Wid.snoc {n : Nat} {es : List Value} {v : Value} (h : Wid n es) (hv : v.cells.size = n) : Wid n (es ++ [v]) := by
  intro u hu
  rcases List.mem_append.1 hu with h1 | h1
  · exact h u h1
  · simp at h1; subst h1; exact hv
theorem Wid.cons {n : Nat} {es : List Value} {v : Value} (h : Wid n (v :: es)) : v.cells.size = n ∧ Wid n es := ⟨h v (by simp), fun u hu => h u (by simp [hu])⟩
theorem Wid.take {n : Nat} {es : List Value} (h : Wid n es) (k : Nat) : Wid n (es.take k) := fun v hv => h v (List.mem_of_mem_take hv)
theorem Wid.drop {n : Nat} {es : List Value} (h : Wid n es) (k : Nat) : Wid n (es.drop k) := fun v hv => h v (List.mem_of_mem_drop hv)
theorem cellsOf_length {n : Nat} {es : List Value} (h : Wid n es) : (cellsOf es).length = es.length * n := by
  induction es with
  | nil => simp [cellsOf]
  | cons v es ih =>
    obtain ⟨h1, h2⟩ := h.cons
    have := ih h2
    simp only [cellsOf, List.flatMap_cons, List.length_append, Array.length_toList, h1] at this ⊢
    rw [this, List.length_cons, Nat.add_mul]
    omega
theorem zfq {n : Nat} {es : List Value} (h : Wid n es) {j i : Nat} {e u : Value} (he : es[j]? = some e) (hu : e.cells[i]? = some u) : (cellsOf es)[j * n + i]? = some u := by
  induction es generalizing j with
  | nil => simp at he
  | cons v es ih =>
    obtain ⟨h1, h2⟩ := h.cons
    have e1 : cellsOf (v :: es) = v.cells.toList ++ cellsOf es := by simp [cellsOf]
    rw [e1, List.getElem?_append, Array.length_toList, h1]
    cases j with
    | zero =>
      simp at he
      subst he
      have hi : i < v.cells.size := (Array.getElem?_eq_some_iff.1 hu).1
      rw [if_pos (by omega)]
      simpa using hu
    | succ j =>
      rw [if_neg (by rw [Nat.add_mul]; omega), show (j + 1) * n + i - n = j * n + i by rw [Nat.add_mul]; omega]
      exact ih h2 (by simpa using he)
def IsS {α : Type} (n : Nat) (R : World → (Nat → Prop) → Value → α → Prop) (w : World) (S : Nat → Prop) (v : Value) (l : List α) : Prop :=
  ∃ A c es, v = .slice A l.length c ∧ l.length ≤ c ∧ c ≤ maxLen ∧ SVS w S A (cellsOf es) ∧ Wid n es ∧ All2 (R w S) es l
theorem IsS.stb {α : Type} {n : Nat} {R : World → (Nat → Prop) → Value → α → Prop} (hR : Stb R) : Stb (IsS n R) := by
  rintro w w' S T v l ⟨A, c, es, hv, h1, h2, h3, h4, h5⟩ hs
  exact ⟨A, c, es, hv, h1, h2, h3.same hs, h4, h5.imp fun x y h => hR.to h hs⟩
theorem IsS.nil {α : Type} {n : Nat} {R : World → (Nat → Prop) → Value → α → Prop} {w : World} {S : Nat → Prop} : IsS n R w S (.slice none 0 0) ([] : List α) :=
  ⟨none, 0, [], rfl, Nat.le_refl _, by unfold maxLen; omega, SVS.nil, Wid.nil, All2.nil⟩
theorem IsS.get {α : Type} {n : Nat} {R : World → (Nat → Prop) → Value → α → Prop} {w : World} {S : Nat → Prop} {A : Option Addr} {m c : Nat} {l : List α} (h : IsS n R w S (.slice A m c) l) (hn : 0 < n) {j : Nat} {x : α} (hj : l[j]? = some x) :
    ∃ b off e, A = some ⟨b, off, none⟩ ∧ S b ∧ R w S e x ∧ e.cells.size = n ∧ ∀ i u, e.cells[i]? = some u → w.cell? ⟨b, off + (j * n + i), none⟩ = some u := by
  obtain ⟨A', c', es, hv, h1, h2, h3, h4, h5⟩ := h
  simp only [Value.slice.injEq] at hv
  obtain ⟨rfl, rfl, rfl⟩ := hv
  obtain ⟨e, he, hr⟩ := h5.get hj
  have hs := h4 e (List.mem_of_getElem? he)
  have hne : cellsOf es ≠ [] := by
    intro h0
    have hl := cellsOf_length h4
    rw [h0] at hl
    have : j < es.length := (List.getElem?_eq_some_iff.1 he).1
    have := Nat.mul_pos (by omega : 0 < es.length) hn
    simp at hl
    omega
  obtain ⟨b, off, hA, hb, hc⟩ := h3 hne
  exact ⟨b, off, e, hA, hb, hr, hs, fun i u hu => hc _ u (zfq h4 he hu)⟩
def IsK (k : IntKind) (w : World) (S : Nat → Prop) (v : Value) (l : List Nat) : Prop :=
  ∃ A c, v = .slice A l.length c ∧ l.length ≤ c ∧ c ≤ maxLen ∧ SVS w S A (cel k l)
theorem IsK.stb {k : IntKind} : Stb (IsK k) := by
  rintro w w' S T v l ⟨A, c, hv, h1, h2, h3⟩ hs
  exact ⟨A, c, hv, h1, h2, h3.same hs⟩
theorem IsK.isL {k : IntKind} {w : World} {S : Nat → Prop} {v : Value} {l : List Nat} {lo hi : Nat} (h : IsK k w S v l) (hS : ∀ b, S b → lo ≤ b ∧ b < hi) : IsL k w lo hi v l := by
  obtain ⟨A, c, hv, h1, h2, h3⟩ := h
  refine ⟨A, c, hv, h1, h2, fun hx => ?_⟩
  obtain ⟨b, off, hA, hb, hc⟩ := h3 hx
  exact ⟨b, off, hA, (hS b hb).1, (hS b hb).2, hc⟩
theorem IsL.isK {k : IntKind} {w : World} {S : Nat → Prop} {v : Value} {l : List Nat} {lo hi : Nat} (h : IsL k w lo hi v l) (hS : ∀ b, lo ≤ b → b < hi → S b) : IsK k w S v l := by
  obtain ⟨A, c, hv, h1, h2, h3⟩ := h
  refine ⟨A, c, hv, h1, h2, fun hx => ?_⟩
  obtain ⟨b, off, hA, hb1, hb2, hc⟩ := h3 hx
  exact ⟨b, off, hA, hS b hb1 hb2, hc⟩
def IsR (w : World) (S : Nat → Prop) (v : Value) (r : Raw) : Prop :=
  ∃ A c B d, v = .agg #[.bool r.neg, .slice A r.num.length c, .slice B r.den.length d] ∧ IsK .u32 w S (.slice A r.num.length c) r.num ∧ IsK .u32 w S (.slice B r.den.length d) r.den
theorem IsR.stb : Stb IsR := by
  rintro w w' S T v r ⟨A, c, B, d, hv, h1, h2⟩ hs
  exact ⟨A, c, B, d, hv, IsK.stb.to h1 hs, IsK.stb.to h2 hs⟩
def IsQ (w : World) (S : Nat → Prop) (v : Value) (q : Rat) : Prop := IsR w S v (raw q)
theorem IsQ.stb : Stb IsQ := fun _ _ _ _ _ _ h hs => IsR.stb.to h hs
def IsV : World → (Nat → Prop) → Value → List Raw → Prop := IsS 3 IsR
def IsM : World → (Nat → Prop) → Value → List (List Raw) → Prop := IsS 1 IsV
theorem IsV.stb : Stb IsV := IsS.stb IsR.stb
theorem IsM.stb : Stb IsM := IsS.stb IsV.stb
def Old (w : World) : Nat → Prop := fun b => b < w.heap.size
def New (n : Nat) (w : World) : Nat → Prop := fun b => n ≤ b ∧ b < w.heap.size
theorem zba {w w' : World} (h : Below w.heap.size w w') : Same (Old w) (Old w') w w' := fun b hb => ⟨Nat.lt_of_lt_of_le hb h.size, fun o => h.cell (p := ⟨b, o, none⟩) hb⟩
theorem same_new {w w' : World} {n : Nat} (h : Below w.heap.size w w') : Same (New n w) (New n w') w w' := fun b hb => ⟨⟨hb.1, Nat.lt_of_lt_of_le hb.2 h.size⟩, fun o => h.cell (p := ⟨b, o, none⟩) hb.2⟩
theorem zay {w : World} {S T : Nat → Prop} (h : ∀ b, S b → T b) : Same S T w w := fun b hb => ⟨h b hb, fun _ => rfl⟩
theorem same_below {w w' : World} {S : Nat → Prop} {B : Nat} (h : Below B w w') (hS : ∀ b, S b → b < B) : Same S S w w' := fun b hb => ⟨hb, fun o => h.cell (p := ⟨b, o, none⟩) (hS b hb)⟩
theorem new_old {w : World} {n : Nat} : ∀ b, New n w b → Old w b := fun b h => h.2
theorem new_le {w : World} {n m : Nat} (h : m ≤ n) : ∀ b, New n w b → New m w b := fun b hb => ⟨Nat.le_trans h hb.1, hb.2⟩
def OwnS {α : Type} (n : Nat) (t : TypeId) (R : World → (Nat → Prop) → Value → α → Prop) (w : World) (base : Nat) (S : Nat → Prop) (v : Value) (l : List α) : Prop :=
  ∃ es, w.ownsRow base t n v l.length (cellsOf es) ∧ Wid n es ∧ All2 (R w S) es l ∧ ∀ b, S b → b < w.heap.size ∧ some b ≠ v.ownBlock
theorem OwnS.nil {α : Type} {n : Nat} {t : TypeId} {R : World → (Nat → Prop) → Value → α → Prop} {w : World} {base : Nat} {S : Nat → Prop} (hS : ∀ b, S b → b < w.heap.size) : OwnS n t R w base S (.slice none 0 0) ([] : List α) :=
  ⟨[], by simpa [cellsOf] using World.ownsRow_nil w base t n, Wid.nil, All2.nil, fun b hb => ⟨hS b hb, by simp [Value.ownBlock]⟩⟩
theorem OwnS.step {α : Type} {n : Nat} {t : TypeId} {R : World → (Nat → Prop) → Value → α → Prop} (hR : Stb R) {w w' : World} {base : Nat} {S T : Nat → Prop} {v : Value} {l : List α} (h : OwnS n t R w base S v l)
    (hb : Below w.heap.size w w') (hST : ∀ b, S b → T b) (hT : ∀ b, T b → S b ∨ (w.heap.size ≤ b ∧ b < w'.heap.size)) : OwnS n t R w' base T v l := by
  obtain ⟨es, h1, h2, h3, h4⟩ := h
  have hg : w.grownBy w' none := ⟨hb.os, hb.tape, hb.output, hb.size, fun k hk _ => hb.block k hk⟩
  refine ⟨es, h1.kept hg (by cases v.ownBlock <;> simp), h2, h3.imp fun x y h => hR.to h fun b hb' => ⟨hST b hb', fun o => hb.cell (p := ⟨b, o, none⟩) (h4 b hb').1⟩, fun b hb' => ?_⟩
  rcases hT b hb' with h | h
  · have := h4 b h
    exact ⟨Nat.lt_of_lt_of_le this.1 hb.size, this.2⟩
  · refine ⟨h.2, fun e => ?_⟩
    have := (h1.lt b e.symm).2
    omega
theorem OwnS.app {α : Type} {n : Nat} {t : TypeId} {R : World → (Nat → Prop) → Value → α → Prop} (hR : Stb R) {w w' : World} {base : Nat} {S : Nat → Prop} {v v' e : Value} {l : List α} {x : α} {es : List Value}
    (h2 : Wid n es) (h3 : All2 (R w S) es l) (h4 : ∀ b, S b → b < w.heap.size ∧ some b ≠ v.ownBlock) (he : R w S e x) (hn : e.cells.size = n)
    (hown : w'.ownsRow base t n v' (l.length + 1) (cellsOf es ++ e.cells.toList)) (hg : w.grownBy w' v.ownBlock) (ho : v'.ownBlock = v.ownBlock ∨ v'.ownBlock = some w.heap.size) :
    OwnS n t R w' base S v' (l ++ [x]) := by
  have hs : Same S S w w' := fun b hb => ⟨hb, fun o => World.cell?_of_block (hg.block b (h4 b hb).1 (h4 b hb).2)⟩
  refine ⟨es ++ [e], ?_, h2.snoc hn, (h3.imp fun x y h => hR.to h hs).snoc (hR.to he hs), fun b hb => ⟨Nat.lt_of_lt_of_le (h4 b hb).1 hg.size, fun e' => ?_⟩⟩
  · rw [cellsOf_append, cellsOf_one, List.length_append]
    exact hown
  · have := h4 b hb
    rcases ho with h | h
    · rw [h] at e'
      exact this.2 e'
    · rw [h] at e'
      simp at e'
      omega
theorem OwnS.isS {α : Type} {n : Nat} {t : TypeId} {R : World → (Nat → Prop) → Value → α → Prop} (hR : Stb R) {w : World} {base : Nat} {S T : Nat → Prop} {v : Value} {l : List α} (h : OwnS n t R w base S v l)
    (hST : ∀ b, S b → T b) (hT : ∀ b, base ≤ b → b < w.heap.size → T b) : IsS n R w T v l := by
  obtain ⟨es, h1, h2, h3, h4⟩ := h
  have hs : Same S T w w := fun b hb => ⟨hST b hb, fun _ => rfl⟩
  rcases h1.2 with ⟨rfl, hn⟩ | ⟨g, cap, cur, rfl, hb, hh, hnc, hcm, hcs, htake⟩
  · have hl : l = [] := List.eq_nil_of_length_eq_zero hn
    subst hl
    exact IsS.nil
  · refine ⟨some ⟨g, 0, none⟩, cap, es, rfl, hnc, hcm, fun _ => ⟨g, 0, rfl, hT g hb (Array.getElem?_eq_some_iff.1 hh).1, fun j u hu => ?_⟩, h2, h3.imp fun x y h => hR.to h hs⟩
    have := h1.cells (g := g) rfl j u hu
    rw [Addr.add_lit] at this
    exact this
section
variable {P : Program} {w : World} {ops : Array Oper} {rest : List Oper} {o : Oper} {a : Act} {Q : Exit → Act → World → Prop} {t e : TypeId}
structure ElN (P : Program) (t e : TypeId) (n bytes : Nat) : Prop where
  und : P.underlying t = some (.slice e)
  info : ∃ i z, P.info? e = some i ∧ i.zero = some z ∧ i.size = n ∧ i.bytes = bytes ∧ z.cells.size = n
  pos : 0 < n
theorem zcp {n bytes : Nat} (E : ElN P t e n bytes) (hgd : o.guard = none) (s x : Operand) (ho : o.op = .call { callee := .builtin .append, args := #[s, x], argTypes := #[t, t] })
    {α : Type} {R : World → (Nat → Prop) → Value → α → Prop} (hR : Stb R) {base : Nat} {S : Nat → Prop} {v ev : Value} {l : List α} {y : α} {te : TypeId} {cs : Array Value}
    (hs : a.eval s = v) (hx : a.eval x = .slice (some ⟨w.heap.size, 0, none⟩) 1 1) (hcs : cs = ev.cells) (hown : OwnS n e R w base S v l) (he : R w S ev y) (hn : ev.cells.size = n)
    (h1 : ∀ u ∈ ev.cells, u.oneCell' = true) (hb : (l.length + 1) * (bytes + 1) ≤ 140737488355328) (hbase : base ≤ w.heap.size)
    (h : ∀ v' w', OwnS n e R w' base S v' (l ++ [y]) → Below base w w' → w.heap.size ≤ w'.heap.size → wpList P ops Q rest (a.put o.dst v') w') : wpList P ops Q (o :: rest) a (w.alloc (.cells cs te)) := by
  subst hcs
  obtain ⟨i, z, hi, hz, hsz, hby, hzc⟩ := E.info
  obtain ⟨es, h1', h2, h3, h4⟩ := hown
  rw [Nat.mul_add, Nat.mul_one] at hb
  have hba := (Below.refl w.heap.size w).alloc (Nat.le_refl _) (.cells ev.cells te)
  have hst : Same S S w (w.alloc (.cells ev.cells te)) := same_below hba (fun b hb => (h4 b hb).1)
  refine wpList_append_own_at _ hgd s x t ho base e i z n bytes E.und hi hz hsz hby hzc E.pos v l.length (cellsOf es) hs (h1'.alloc _) ⟨w.heap.size, 0, none⟩ 1 1 ev.cells.toList hx (by simp [hn]) (fun j u hu => ?_) (by simpa using h1)
    (by unfold maxLen; omega) (by omega) (by simp; omega) fun v' w' g1 g2 _ g4 => h v' w' ?_ ?_ ?_
  · rw [Addr.add_lit, Nat.zero_add, cell_of_row _ _ _ _ _ _ (heap_alloc_new w _)]
    simpa using hu
  · refine OwnS.app hR h2 (h3.imp fun x y h => hR.to h hst) (fun b hb => ⟨Nat.lt_of_lt_of_le (h4 b hb).1 hba.size, (h4 b hb).2⟩) (hR.to he hst) hn g1 g2 ?_
    rcases g4 with g | g
    · exact .inl g
    · exact .inr g
  · exact ((Below.refl base w).alloc hbase _).grown g2 (by simp; omega) (fun k hk => (h1'.lt k hk).1)
  · have := g2.size
    simp at this
    omega
theorem zdl {n bytes : Nat} (E : ElN P t e n bytes) (hg : o.guard = none) (l c : Operand) (hop : o.op = Op.makeSlice t l c) {α : Type} (R : World → (Nat → Prop) → Value → α → Prop) {kl kc : IntKind} {C : Int} (m : Nat)
    (hl : a.eval l = .int kl 0) (hc : a.eval c = .int kc C) (hC : C = (m : Int)) (hb : m * (bytes + 1) ≤ 140737488355328) {base : Nat} {S : Nat → Prop} (hbase : base ≤ w.heap.size) (hS : ∀ b, S b → b < w.heap.size)
    (hK : ∀ v w', OwnS n e R w' base S v ([] : List α) → Below w.heap.size w w' → w.heap.size ≤ w'.heap.size → wpList P ops Q rest (a.put o.dst v) w') :
    wpList P ops Q (o :: rest) a w := by
  obtain ⟨i, z, hi, hz, hsz, hby, hzc⟩ := E.info
  rw [Nat.mul_add, Nat.mul_one] at hb
  refine wpList_make_own w hg l c t hop w.heap.size e i z n E.und hi hz hsz kl kc C m hl hc hC (by rw [hby, Nat.mul_comm]; omega) (by unfold maxLen; omega) (Nat.le_refl _)
    fun w' g1 g2 => hK _ w' ⟨[], ⟨g1.1, ?_⟩, Wid.nil, All2.nil, fun b hb => ⟨Nat.lt_of_lt_of_le (hS b hb) g2.size, fun e' => ?_⟩⟩ ((Below.refl _ _).grown g2 (Nat.le_refl _) (by simp)) g2.size
  · rcases g1.2 with h | ⟨g, cap, cur, hv, hb', rest⟩
    · exact .inl h
    · exact .inr ⟨g, cap, cur, hv, by omega, rest⟩
  · have := (g1.lt b e'.symm).1
    have := hS b hb
    omega
end
end Go.Proofs.YtjkgdggkgljdoaaDoor
namespace Go.Proofs.YtjkgdggkgljdoaaDoor
set_option linter.unusedVariables false
section
variable {qa qb : Rat} {na nb neg : Bool} {n G : Nat}
theorem sg_num {q : Rat} {s : Bool} (h : s = decide (q.num < 0)) : sg s q.num.natAbs = q.num := by rw [h]; exact sg_of _
theorem mk_self (q : Rat) : mkRat q.num q.den = q := Rat.mkRat_self q
theorem plus_num (h1 : na = decide (qa.num < 0)) (h2 : nb = decide (qb.num < 0)) (hj : sg neg n = sg na (qa.num.natAbs * (qb.den / G)) + sg nb (qb.num.natAbs * (qa.den / G))) :
    sg neg n = qa.num * ((qb.den / G : Nat) : Int) + qb.num * ((qa.den / G : Nat) : Int) := by
  rw [hj, sg_mulr, sg_mulr, sg_num h1, sg_num h2]
theorem plus_raw (h1 : na = decide (qa.num < 0)) (h2 : nb = decide (qb.num < 0)) (hG : G = Nat.gcd qa.den qb.den) (hj : sg neg n = sg na (qa.num.natAbs * (qb.den / G)) + sg nb (qb.num.natAbs * (qa.den / G))) (hn : n ≠ 0) :
    raw (qa + qb) = ⟨neg, lim (n / Nat.gcd n G), lim (qa.den / G * (qb.den / Nat.gcd n G))⟩ := by
  have h := plus_num h1 h2 hj
  subst hG
  have := raw_plus (i := qa.num) (j := qb.num) (a := qa.den) (b := qb.den) (n := n) (neg := neg) qa.den_nz qb.den_nz qa.reduced qb.reduced h hn
  rw [mk_self, mk_self] at this
  exact this
theorem plus_raw1 (h1 : na = decide (qa.num < 0)) (h2 : nb = decide (qb.num < 0)) (hG : G = Nat.gcd qa.den qb.den) (hj : sg neg n = sg na (qa.num.natAbs * (qb.den / G)) + sg nb (qb.num.natAbs * (qa.den / G))) (hn : n ≠ 0) (hG1 : G = 1) :
    raw (qa + qb) = ⟨neg, lim n, lim (qa.den * qb.den)⟩ := by
  have h := plus_raw h1 h2 hG hj hn
  rw [hG1, Nat.gcd_one_right, Nat.div_one, Nat.div_one, Nat.div_one] at h
  exact h
theorem plus_nil (h1 : na = decide (qa.num < 0)) (h2 : nb = decide (qb.num < 0)) (hG : G = Nat.gcd qa.den qb.den) (hj : sg neg n = sg na (qa.num.natAbs * (qb.den / G)) + sg nb (qb.num.natAbs * (qa.den / G))) (hn : n = 0) : qa + qb = 0 := by
  have h := plus_num h1 h2 hj
  subst hG
  rw [hn, sg_zero] at h
  have := plus_zero (i := qa.num) (j := qb.num) (a := qa.den) (b := qb.den) qa.den_nz qb.den_nz h.symm
  rw [mk_self, mk_self] at this
  exact this
theorem plus_over (h1 : na = decide (qa.num < 0)) (h2 : nb = decide (qb.num < 0)) (hj : sg neg n = sg na (qa.num.natAbs * qb.den) + sg nb (qb.num.natAbs * qa.den)) : mkRat (sg neg n) (qa.den * qb.den) = qa + qb := by
  rw [hj, sg_mulr, sg_mulr, sg_num h1, sg_num h2, Rat.add_def']
theorem times_raw (h1 : na = decide (qa.num < 0)) (h2 : nb = decide (qb.num < 0)) (ha : qa ≠ 0) (hb : qb ≠ 0) :
    raw (qa * qb) = ⟨na != nb, lim (qa.num.natAbs / Nat.gcd qa.num.natAbs qb.den * (qb.num.natAbs / Nat.gcd qb.num.natAbs qa.den)), lim (qa.den / Nat.gcd qb.num.natAbs qa.den * (qb.den / Nat.gcd qa.num.natAbs qb.den))⟩ := by
  have := raw_times (p := na) (q := nb) qa.den_nz qb.den_nz (zfc ha) (zfc hb) qa.reduced qb.reduced
  rw [sg_num h1, sg_num h2, mk_self, mk_self] at this
  exact this
theorem times_over (h1 : na = decide (qa.num < 0)) (h2 : nb = decide (qb.num < 0)) : mkRat (sg (na != nb) (qa.num.natAbs * qb.num.natAbs)) (qa.den * qb.den) = qa * qb := by
  rw [sg_mul, sg_num h1, sg_num h2, Rat.mul_def']
end
def sgnQ (q : Rat) : Int := if q = 0 then 0 else if q < 0 then -1 else 1
theorem sgnQ_val (q : Rat) : sgnQ q = -1 ∨ sgnQ q = 0 ∨ sgnQ q = 1 := by
  unfold sgnQ
  split
  · exact .inr (.inl rfl)
  · split
    · exact .inl rfl
    · exact .inr (.inr rfl)
end Go.Proofs.YtjkgdggkgljdoaaDoor
namespace Go.Proofs.YtjkgdggkgljdoaaDoor
open Go.RowKit
set_option linter.unusedVariables false
def bruT : List Nat := Lib.deBruijn64tab
def Bru (w : World) : Prop := 0 < w.heap.size ∧ ∀ i, i < 64 → w.cell? ⟨0, i, none⟩ = some (.int .u8 (bruT.getD i 0 : Nat))
theorem Bru.below {w w' : World} (h : Bru w) (hb : Below w.heap.size w w') : Bru w' :=
  ⟨Nat.lt_of_lt_of_le h.1 hb.size, fun i hi => (hb.cell (p := ⟨0, i, none⟩) h.1).trans (h.2 i hi)⟩
theorem Bru.alloc {w : World} (h : Bru w) (o : Obj) : Bru (w.alloc o) := h.below ((Below.refl _ _).alloc (Nat.le_refl _) o)
theorem Bru.drewN {w : World} (h : Bru w) (n : Nat) : Bru (w.drewN n) := h
theorem tz_key (x a : Nat) (hx : x < 18446744073709551616) (hx0 : x ≠ 0) (hlow : x &&& (18446744073709551616 - x) = a) :
    IntKind.u64.wrap (bits BinOp.and IntKind.u64 (x : Int) (IntKind.u64.wrap (-(x : Int))) * 285870213051353865) / 288230376151711744 = ((a * 285870213051353865 % 18446744073709551616 / 288230376151711744 : Nat) : Int) := by
  have e1 : IntKind.u64.wrap (-(x : Int)) = ((18446744073709551616 - x : Nat) : Int) := by rw [IntKind.wrap_u64]; omega
  rw [e1, bits_and_u64_nat x _ hx (by omega), hlow, IntKind.wrap_u64]
  omega
set_option maxHeartbeats 1000000 in
theorem tz_core (x k idx : Nat) (w : World) (hx0 : ((x : Int) == 0) = false)
    (key : IntKind.u64.wrap (bits BinOp.and IntKind.u64 (x : Int) (IntKind.u64.wrap (-(x : Int))) * 285870213051353865) / 288230376151711744 = (idx : Int))
    (hi : idx < 64) (hk : k < 64) (hcell : w.cell? ⟨0, idx, none⟩ = some (.int .u8 k)) :
    Calls Tryd.prog 141 #[.int .u64 x] w fun e w' => e = .returned (.int .i64 k) ∧ w = w' := by
  go_enter Tryd.func141, Tryd.ntmps141
  go_wp2_with (simp only [key])
  go_ret
  exact ⟨rfl, rfl⟩
theorem tz_n (x : Nat) (w : World) (hB : Bru w) (hx0 : x ≠ 0) (hx : x < 18446744073709551616) :
    ∃ k m : Nat, k < 64 ∧ x = 2 ^ k * (2 * m + 1) ∧ Calls Tryd.prog 141 #[.int .u64 (x : Int)] w fun e w' => e = .returned (.int .i64 (k : Int)) ∧ w = w' := by
  obtain ⟨hlow, hk⟩ := Lib.lowest_bit 64 x hx0 hx
  obtain ⟨hi, htab⟩ := Lib.deBruijn64_at _ hk
  have hcell := hB.2 _ hi
  unfold bruT at hcell
  rw [htab] at hcell
  obtain ⟨m, hm, _⟩ := Lib.ctzFrom_spec 64 x (by omega) hx
  refine ⟨Lib.ctz 64 x, m, hk, ?_, tz_core x _ _ w (by simp; omega) (tz_key x _ hx hx0 hlow) hi hk hcell⟩
  unfold Lib.ctz
  rw [if_neg hx0]
  exact hm
abbrev NumS (w : World) (S : Nat → Prop) (v : Value) (n : Nat) : Prop := IsK .u32 w S v (lim n)
theorem isQ_mk {w : World} {S : Nat → Prop} {vn vd : Value} {q : Rat} {neg : Bool} {n d : Nat} (h : raw q = ⟨neg, lim n, lim d⟩) (hn : NumS w S vn n) (hd : NumS w S vd d) : IsQ w S (.agg #[.bool neg, vn, vd]) q := by
  obtain ⟨A, c, rfl, h1, h2, h3⟩ := hn
  obtain ⟨B, c', rfl, h1', h2', h3'⟩ := hd
  unfold IsQ
  rw [h]
  exact ⟨A, c, B, c', rfl, ⟨A, c, rfl, h1, h2, h3⟩, ⟨B, c', rfl, h1', h2', h3'⟩⟩
theorem zam {w : World} {S : Nat → Prop} {v : Value} {q : Rat} (h : IsQ w S v q) : ∃ neg A c B d, v = .agg #[.bool neg, .slice A (lim q.num.natAbs).length c, .slice B (lim q.den).length d] ∧ Hid (neg = decide (q.num < 0)) ∧
    Hid (NumS w S (.slice A (lim q.num.natAbs).length c) q.num.natAbs) ∧ Hid (NumS w S (.slice B (lim q.den).length d) q.den) := by
  obtain ⟨A, c, B, d, rfl, h1, h2⟩ := h
  exact ⟨_, A, c, B, d, rfl, rfl, h1, h2⟩
theorem zal {w : World} {v : Value} {n : Nat} (h : NumS w (Old w) v n) : IsN w 0 w.heap.size v n := h.isL fun b hb => ⟨Nat.zero_le _, hb⟩
theorem isN_new {w : World} {v : Value} {n lo : Nat} (h : IsN w lo w.heap.size v n) : NumS w (New lo w) v n := h.isK fun b h1 h2 => ⟨h1, h2⟩
theorem isN_old {w : World} {v : Value} {n lo : Nat} (h : IsN w lo w.heap.size v n) : NumS w (Old w) v n := h.isK fun b h1 h2 => h2
theorem Stb.next {α : Type} {R : World → (Nat → Prop) → Value → α → Prop} (hR : Stb R) {w w' : World} {v : Value} {x : α} (h : R w (Old w) v x) (hb : Below w.heap.size w w') : R w' (Old w') v x := hR.to h (zba hb)
theorem Stb.fresh {α : Type} {R : World → (Nat → Prop) → Value → α → Prop} (hR : Stb R) {w w' : World} {n : Nat} {v : Value} {x : α} (h : R w (New n w) v x) (hb : Below w.heap.size w w') : R w' (New n w') v x := hR.to h (same_new hb)
theorem Stb.old {α : Type} {R : World → (Nat → Prop) → Value → α → Prop} (hR : Stb R) {w : World} {n : Nat} {v : Value} {x : α} (h : R w (New n w) v x) : R w (Old w) v x := hR.to h (zay new_old)
theorem Stb.le {α : Type} {R : World → (Nat → Prop) → Value → α → Prop} (hR : Stb R) {w : World} {n m : Nat} {v : Value} {x : α} (h : R w (New n w) v x) (hm : m ≤ n) : R w (New m w) v x := hR.to h (zay (new_le hm))
theorem numS_zero {w : World} {S : Nat → Prop} : NumS w S (.slice none 0 0) 0 := by
  unfold NumS
  rw [zbd]
  exact ⟨none, 0, rfl, Nat.le_refl _, by unfold maxLen; omega, SVS.nil⟩
def RetQ (w : World) (q : Rat) (e : Ending) (w' : World) : Prop := (∃ v, e = .returned v ∧ IsQ w' (New w.heap.size w') v q) ∧ Below w.heap.size w w'
theorem Row.next {w w' : World} {g : Nat} {t : TypeId} {xs : List Value} (h : Row w g t xs) (hb : Below w.heap.size w w') : Row w' g t xs := h.below hb h.lt
theorem zaa {w w1 w2 : World} (h : Below w.heap.size w w1) (hb : Below w1.heap.size w1 w2) : Below w.heap.size w w2 := h.trans (hb.mono h.size)
theorem below_stepA {w w1 : World} {n : Nat} (h : Below n w w1) (o : Obj) (hn : n ≤ w1.heap.size := by first | exact Below.size ‹_› | simp) : Below n w (w1.alloc o) := h.alloc hn o
abbrev put3 (w : World) (g : Nat) (a b c : Value) : World := ((w.setCell ⟨g, 0, none⟩ a).setCell ⟨g, 1, none⟩ b).setCell ⟨g, 2, none⟩ c
theorem Row.put3 {w : World} {g : Nat} {t : TypeId} {x y z : Value} (h : Row w g t [x, y, z]) (a b c : Value) : Row (put3 w g a b c) g t [a, b, c] := ((h.set_ 0 a).set_ 1 b).set_ 2 c
theorem zdb {w w1 : World} {n g : Nat} (h : Below n w w1) (hg : n ≤ g) (a b c : Value) : Below n w (put3 w1 g a b c) := ((h.setCell (p := ⟨g, 0, none⟩) hg a).setCell (p := ⟨g, 1, none⟩) hg b).setCell (p := ⟨g, 2, none⟩) hg c
theorem zcz (w : World) (g : Nat) (a b c : Value) : (put3 w g a b c).heap.size = w.heap.size := by simp [put3, World.setCell]
theorem zcu {w : World} {g : Nat} {S T : Nat → Prop} {a b c : Value} (h : ∀ x, S x → x ≠ g ∧ T x) : Same S T w (put3 w g a b c) := fun x hx => by
  have := h x hx
  refine ⟨this.2, fun o => ?_⟩
  rw [World.cell?_setCell_other _ _ _ _ (fun e => this.1 (by cases e; rfl)), World.cell?_setCell_other _ _ _ _ (fun e => this.1 (by cases e; rfl)), World.cell?_setCell_other _ _ _ _ (fun e => this.1 (by cases e; rfl))]
theorem zad {w : World} {g : Nat} {t : TypeId} {x y z : Value} (h : Row w g t [x, y, z]) : w.cell? ⟨g, 0, none⟩ = some x ∧ w.cell? ⟨g, 1, none⟩ = some y ∧ w.cell? ⟨g, 2, none⟩ = some z := ⟨h.cell 0, h.cell 1, h.cell 2⟩
theorem zaq {w : World} {g : Nat} {t : TypeId} {x y z : Value} (h : Row w g t [x, y, z]) : w.frozen? ⟨g, 0, none⟩ = false ∧ w.frozen? ⟨g, 1, none⟩ = false ∧ w.frozen? ⟨g, 2, none⟩ = false := ⟨h.frozen 0, h.frozen 1, h.frozen 2⟩
theorem zac {w w' : World} {p : Addr} {v : Value} (hb : Below w.heap.size w w') (h : w.cell? p = some v) : w'.cell? p = some v := (hb.cell (World.block_lt_of_cell? w p h)).trans h
theorem zbu {w w' : World} {p : Addr} {v : Value} (hb : Below w.heap.size w w') (h : w.cell? p = some v) (hf : w.frozen? p = false) : w'.frozen? p = false := (hb.frozen (World.block_lt_of_cell? w p h)).trans hf
theorem zar {w : World} {g b o : Nat} {v x y z : Value} (h : w.cell? ⟨b, o, none⟩ = some v) (hg : b ≠ g) : (put3 w g x y z).cell? ⟨b, o, none⟩ = some v := by
  rw [World.cell?_setCell_other _ _ _ _ (fun e => hg (by cases e; rfl)), World.cell?_setCell_other _ _ _ _ (fun e => hg (by cases e; rfl)), World.cell?_setCell_other _ _ _ _ (fun e => hg (by cases e; rfl))]
  exact h
theorem zbc {fn : Func} {slot : Tmp} {R : Ending → World → Prop} {a : Act} {w : World} {g : Nat} {x y z : Value} (hr : fn.results = #[.cell slot 50]) (ha : a.tmps.getD slot undef = .pointer (some ⟨g, 0, none⟩)) (hd : a.defers = [])
    (h : Row w g 50 [x, y, z]) (hR : R (.returned (.agg #[x, y, z])) w) : bodyPost Tryd.prog fn R .ret a w := by
  refine bodyPost_ret (v := .agg #[x, y, z]) ?_ hd hR
  obtain ⟨h0, h1, h2⟩ := zad h
  have ha' : a.tmps[slot]?.getD undef = .pointer (some ⟨g, 0, none⟩) := by simpa using ha
  simp [results, hr, ha', asAddr, go_sem, h0, h1, h2]
theorem retQ {w w1 : World} {g lo1 lo2 : Nat} {vn vd : Value} {q : Rat} {neg : Bool} {n d : Nat} (hraw : raw q = ⟨neg, lim n, lim d⟩) (hw : Below w.heap.size w w1) (hg : w.heap.size ≤ g)
    (hn : NumS w1 (New lo1 w1) vn n) (hd : NumS w1 (New lo2 w1) vd d) (h1 : g < lo1) (h2 : g < lo2) : RetQ w q (.returned (.agg #[.bool neg, vn, vd])) (put3 w1 g (.bool neg) vn vd) := by
  refine ⟨⟨_, rfl, isQ_mk hraw (IsK.stb.to hn (zcu fun x hx => ?_)) (IsK.stb.to hd (zcu fun x hx => ?_))⟩, zdb hw hg _ _ _⟩
  · exact ⟨by have := hx.1; omega, by have := hx.1; omega, by rw [zcz]; exact hx.2⟩
  · exact ⟨by have := hx.1; omega, by have := hx.1; omega, by rw [zcz]; exact hx.2⟩
theorem zfm {w w1 : World} {g lo : Nat} {x vn vd : Value} {q : Rat} (h : IsQ w1 (New lo w1) (.agg #[x, vn, vd]) q) (hw : Below w.heap.size w w1) (hg : w.heap.size ≤ g) (hlo : g < lo) : RetQ w q (.returned (.agg #[x, vn, vd])) (put3 w1 g x vn vd) :=
  ⟨⟨_, rfl, IsQ.stb.to h (zcu fun b hb => ⟨by have := hb.1; omega, by have := hb.1; omega, by rw [zcz]; exact hb.2⟩)⟩, zdb hw hg _ _ _⟩
theorem zdm {w : World} {S : Nat → Prop} {vn vd : Value} {q : Rat} {neg : Bool} (h : IsQ w S (.agg #[.bool neg, vn, vd]) q) : NumS w S vn q.num.natAbs := by
  obtain ⟨A, c, B, d, hv, h1, h2⟩ := h
  simp only [Value.agg.injEq] at hv
  injection hv with hv
  simp only [List.cons.injEq] at hv
  obtain ⟨_, rfl, rfl, _⟩ := hv
  exact h1
theorem zcv {w : World} {S : Nat → Prop} {vn vd : Value} {q : Rat} {neg : Bool} (h : IsQ w S (.agg #[.bool neg, vn, vd]) q) : NumS w S vd q.den := by
  obtain ⟨A, c, B, d, hv, h1, h2⟩ := h
  simp only [Value.agg.injEq] at hv
  injection hv with hv
  simp only [List.cons.injEq] at hv
  obtain ⟨_, rfl, rfl, _⟩ := hv
  exact h2
theorem zfd {w : World} {S : Nat → Prop} {A : Option Addr} {n c x : Nat} (h : NumS w S (.slice A n c) x) (hl : (lim x).length = 1) : ∃ b o, A = some ⟨b, o, none⟩ ∧ w.cell? ⟨b, o, none⟩ = some (.int .u32 (x : Int)) ∧ 1 ≤ (x : Int) ∧ (x : Int) ≤ 999999999 := by
  obtain ⟨A', c', hv, h1, h2, h3⟩ := h
  simp only [Value.slice.injEq] at hv
  obtain ⟨rfl, rfl, rfl⟩ := hv
  have hx0 : x ≠ 0 := by rintro rfl; rw [zbd] at hl; simp at hl
  have hx : x < 1000000000 := by
    have := lim_len_le.1 (Nat.le_of_eq hl)
    rw [pw_one] at this
    exact this
  have e := lim_small hx hx0
  rw [e] at h3
  obtain ⟨b, o, hA, _, hc⟩ := h3 (by simp [cel])
  have := hc 0 (.int .u32 (x : Int)) (by simp [cel])
  exact ⟨b, o, hA, this, by omega, by omega⟩
theorem zcf (w : World) (c1 : Array Value) (t1 : TypeId) : ∃ w0, w.alloc (.cells c1 t1) = w0 ∧ Below w.heap.size w w0 ∧ Row w0 w.heap.size t1 c1.toList ∧ Hid (w0.heap.size = w.heap.size + 1) :=
  ⟨_, rfl, (Below.refl _ w).alloc (Nat.le_refl _) _, heap_alloc_new w _, by simp [Hid]⟩
theorem zfp (w : World) (c1 c2 : Array Value) (t1 t2 : TypeId) : ∃ w0, (w.alloc (.cells c1 t1)).alloc (.cells c2 t2) = w0 ∧ Below w.heap.size w w0 ∧ Row w0 w.heap.size t1 c1.toList ∧ Row w0 (w.heap.size + 1) t2 c2.toList ∧ Hid (w0.heap.size = w.heap.size + 2) := by
  refine ⟨_, rfl, ((Below.refl _ w).alloc (Nat.le_refl _) _).alloc (by simp) _, Row.alloc (xs := c1.toList) (heap_alloc_new w (.cells c1 t1)) _, ?_, by simp [Hid]⟩
  have := heap_alloc_new (w.alloc (.cells c1 t1)) (.cells c2 t2)
  rw [World.size_alloc] at this
  exact this
theorem boxes3 (w : World) (c1 c2 c3 : Array Value) (t1 t2 t3 : TypeId) : ∃ w0, ((w.alloc (.cells c1 t1)).alloc (.cells c2 t2)).alloc (.cells c3 t3) = w0 ∧ Below w.heap.size w w0 ∧ Row w0 w.heap.size t1 c1.toList ∧ Row w0 (w.heap.size + 1) t2 c2.toList ∧ Row w0 (w.heap.size + 1 + 1) t3 c3.toList ∧ Hid (w0.heap.size = w.heap.size + 3) := by
  obtain ⟨w1, rfl, h1, h2, h3, h4⟩ := zfp w c1 c2 t1 t2
  refine ⟨_, rfl, h1.alloc h1.size _, h2.alloc _, h3.alloc _, ?_, by simp [Hid]⟩
  have := heap_alloc_new ((w.alloc (.cells c1 t1)).alloc (.cells c2 t2)) (.cells c3 t3)
  rw [h4.out] at this
  exact this
theorem zbt (w : World) (o : Obj) : Below w.heap.size w (w.alloc o) := (Below.refl _ w).alloc (Nat.le_refl _) o
theorem zbp {w w' : World} {n : Nat} (h : Below (w.drewN n).heap.size (w.drewN n) w') : Below w.heap.size w w' := ⟨h.os, h.tape, h.output, h.size, h.block⟩
theorem zab (w : World) : Below w.heap.size w w.drew := ⟨rfl, rfl, rfl, Nat.le_refl _, fun _ _ => rfl⟩
def Rd (w : World) (v : Value) (n : Nat) : Prop := ∀ w', Below w.heap.size w w' → IsN w' 0 w'.heap.size v n
theorem Rd.to {w w' : World} {v : Value} {n : Nat} (h : Rd w v n) (hb : Below w.heap.size w w') : IsN w' 0 w'.heap.size v n := h w' hb
theorem zeu (x : Nat) {y : Nat} (h : y ≠ 0) : 0 < Nat.gcd x y := Nat.gcd_pos_of_pos_right _ (by omega)
theorem gcd_le_r (x : Nat) {y k : Nat} (h : y ≠ 0) (hy : (lim y).length ≤ k) : (lim (Nat.gcd x y)).length ≤ k := Nat.le_trans (zas (Nat.le_of_dvd (by omega) (Nat.gcd_dvd_right _ _))) hy
theorem zdt {x y k : Nat} (hx : (lim x).length ≤ k) : (lim (x / y)).length ≤ k := Nat.le_trans (zas (Nat.div_le_self _ _)) hx
theorem IsN.next {w w' : World} {v : Value} {n : Nat} (h : IsN w 0 w.heap.size v n) (hb : Below w.heap.size w w') : IsN w' 0 w'.heap.size v n := (h.below hb (Nat.le_refl _)).wide (Nat.le_refl _) hb.size
theorem Bru.next {w w' : World} (h : Bru w) (hb : Below w.heap.size w w') : Bru w' := h.below hb
theorem zah {w w' : World} {n : Nat} (h : n ≤ w.heap.size) (hb : Below w.heap.size w w') : n ≤ w'.heap.size := Nat.le_trans h hb.size
theorem zaz {w : World} {v : Value} {n lo m : Nat} (h : IsN w lo w.heap.size v n) (hm : m ≤ lo) : NumS w (New m w) v n := IsK.stb.le (isN_new h) hm
theorem zae {w X : World} (h : Below w.heap.size w X) (o : Obj) : Below w.heap.size w (X.alloc o) := h.alloc h.size o
theorem zaf {w X : World} (h : Below w.heap.size w X) : Below w.heap.size w X.drew := zaa h (zab X)
theorem zag {w w1 X : World} (h : Below w.heap.size w w1) (hX : Below w.heap.size w X) (a b c : Value) : Below w.heap.size w (put3 w1 X.heap.size a b c) := zdb h hX.size a b c
theorem zai {w w1 : World} {g o : Nat} {u : Value} (h : Below w.heap.size w w1) (hg : w.heap.size ≤ g) : Below w.heap.size w (w1.setCell ⟨g, o, none⟩ u) := h.setCell (p := ⟨g, o, none⟩) hg u
section
variable {P : Program} {ops : Array Oper} {Q : Exit → Act → World → Prop} {md : Region.Mode} {S : World → Prop}
theorem zcx {i : Nat} {oi : Oper} {v : Value} (d : Option Tmp) {fuel : Nat} {listed : Array Bool} {a : Act} {w : World} (hi : ops[i]? = some oi) (hd : oi.dst = d) (hs : Region.noSelect ops = true) (hf : Region.free md ops listed i = true) (hr : (Region.ready md ops listed).contains i = true)
    (hw : Region.wanted oi (yielded ops a.tmps) = true) (hQ : ∀ c a w, Q (.panic c) (a.put d v) w → Q (.panic c) a w) (hy : ∀ w, S w → (execOp a.eval oi).run P w = .ok (.value v) w) (hS : S w)
    (h : wpAnyH P md ops Q S fuel (listed.setIfInBounds i true) (a.put d v) w) : wpAnyH P md ops Q S (fuel + 1) listed a w := by
  subst hd
  exact wpAnyH_take hi hs hf hr hQ (Or.inl ⟨hw, hy⟩) hS h
end
end Go.Proofs.YtjkgdggkgljdoaaDoor
