/-
  Plain facts: what the steps of a sum and of a product of rational numbers come to.
-/
import Derived.Test.YtijjjbgnpfjpmaaGreatDoorCoh01
import Derived.Test.YtijjjbgnpfjpmaaGreatDoorChecked
import Derived.WalkKit
import Derived.Lib.TrailingZeros
import Derived.Laws.Bits64b
import Derived.Deep.RegionHeld3
import Derived.Test.YtijjjbgnpfjpmaaGreatDoorProg
namespace Go.Proofs.YtijjjbgnpfjpmaaGreatDoor
set_option linter.unusedVariables false
section
variable {qa qb : Rat} {na nb neg : Bool} {n G : Nat}
theorem sg_num {q : Rat} {s : Bool} (h : s = decide (q.num < 0)) : sg s q.num.natAbs = q.num := by rw [h]; exact sg_of _
theorem mk_self (q : Rat) : mkRat q.num q.den = q := Rat.mkRat_self q
theorem plus_num (h1 : na = decide (qa.num < 0)) (h2 : nb = decide (qb.num < 0)) (hj : sg neg n = sg na (qa.num.natAbs * (qb.den / G)) + sg nb (qb.num.natAbs * (qa.den / G))) :
    sg neg n = qa.num * ((qb.den / G : Nat) : Int) + qb.num * ((qa.den / G : Nat) : Int) := by
  rw [hj, sg_mulr, sg_mulr, sg_num h1, sg_num h2]
theorem plus_raw (h1 : na = decide (qa.num < 0)) (h2 : nb = decide (qb.num < 0)) (hG : G = Nat.gcd qa.den qb.den) (hj : sg neg n = sg na (qa.num.natAbs * (qb.den / G)) + sg nb (qb.num.natAbs * (qa.den / G))) (hn : n ≠ 0) :
    raw (qa + qb) = ⟨neg, lim (n / Nat.gcd n G), lim (qa.den / G * (qb.den / Nat.gcd n G))⟩ := by
  have h := plus_num h1 h2 hj
  subst hG
  have := raw_plus (i := qa.num) (j := qb.num) (a := qa.den) (b := qb.den) (n := n) (neg := neg) qa.den_nz qb.den_nz qa.reduced qb.reduced h hn
  rw [mk_self, mk_self] at this
  exact this
theorem plus_nil (h1 : na = decide (qa.num < 0)) (h2 : nb = decide (qb.num < 0)) (hG : G = Nat.gcd qa.den qb.den) (hj : sg neg n = sg na (qa.num.natAbs * (qb.den / G)) + sg nb (qb.num.natAbs * (qa.den / G))) (hn : n = 0) : qa + qb = 0 := by
  have h := plus_num h1 h2 hj
  subst hG
  rw [hn, sg_zero] at h
  have := plus_zero (i := qa.num) (j := qb.num) (a := qa.den) (b := qb.den) qa.den_nz qb.den_nz h.symm
  rw [mk_self, mk_self] at this
  exact this
theorem plus_over (h1 : na = decide (qa.num < 0)) (h2 : nb = decide (qb.num < 0)) (hj : sg neg n = sg na (qa.num.natAbs * qb.den) + sg nb (qb.num.natAbs * qa.den)) : mkRat (sg neg n) (qa.den * qb.den) = qa + qb := by
  rw [hj, sg_mulr, sg_mulr, sg_num h1, sg_num h2, Rat.add_def']
theorem times_raw (h1 : na = decide (qa.num < 0)) (h2 : nb = decide (qb.num < 0)) (ha : qa ≠ 0) (hb : qb ≠ 0) :
    raw (qa * qb) = ⟨na != nb, lim (qa.num.natAbs / Nat.gcd qa.num.natAbs qb.den * (qb.num.natAbs / Nat.gcd qb.num.natAbs qa.den)), lim (qa.den / Nat.gcd qb.num.natAbs qa.den * (qb.den / Nat.gcd qa.num.natAbs qb.den))⟩ := by
  have := raw_times (p := na) (q := nb) qa.den_nz qb.den_nz (zdi ha) (zdi hb) qa.reduced qb.reduced
  rw [sg_num h1, sg_num h2, mk_self, mk_self] at this
  exact this
end
def cmpQ (p q : Rat) : Int := if p < q then -1 else if p = q then 0 else 1
theorem cmpQ_lt {p q : Rat} (h : p < q) : cmpQ p q = -1 := by unfold cmpQ; rw [if_pos h]
theorem zfq {p q : Rat} (h : p = q) : cmpQ p q = 0 := by unfold cmpQ; rw [if_neg (by rw [h]; exact Rat.lt_irrefl), if_pos h]
theorem cmpQ_gt {p q : Rat} (h : q < p) : cmpQ p q = 1 := by
  unfold cmpQ
  rw [if_neg (Rat.not_lt.2 (Rat.le_of_lt h)), if_neg (Rat.ne_of_gt h)]
theorem cmpQ_zero {p q : Rat} : cmpQ p q = 0 ↔ p = q := by
  unfold cmpQ
  split
  · rename_i h; exact ⟨fun h' => by omega, fun h' => absurd h' (Rat.ne_of_lt h)⟩
  · split
    · rename_i h; exact ⟨fun _ => h, fun _ => rfl⟩
    · rename_i h; exact ⟨fun h' => by omega, fun h' => absurd h' h⟩
theorem cmpQ_pos {p q : Rat} : 0 < cmpQ p q ↔ q < p := by
  unfold cmpQ
  split
  · rename_i h; exact ⟨fun h' => by omega, fun h' => absurd h (Rat.not_lt.2 (Rat.le_of_lt h'))⟩
  · rename_i h
    split
    · rename_i h2; exact ⟨fun h' => by omega, fun h' => by rw [h2] at h'; exact absurd h' Rat.lt_irrefl⟩
    · rename_i h2; exact ⟨fun _ => Rat.lt_of_le_of_ne (Rat.not_lt.1 h) (Ne.symm h2), fun _ => by omega⟩
theorem cmpQ_neg {p q : Rat} : cmpQ p q < 0 ↔ p < q := by
  unfold cmpQ
  split
  · rename_i h; exact ⟨fun _ => h, fun _ => by omega⟩
  · rename_i h
    split
    · exact ⟨fun h' => by omega, fun h' => absurd h' h⟩
    · exact ⟨fun h' => by omega, fun h' => absurd h' h⟩
def sgnQ (q : Rat) : Int := if q = 0 then 0 else if q < 0 then -1 else 1
theorem sgnQ_cmp (q : Rat) : sgnQ q = cmpQ q 0 := by
  unfold sgnQ cmpQ
  by_cases h : q = 0
  · rw [if_pos h, if_neg (by rw [h]; exact Rat.lt_irrefl), if_pos h]
  · rw [if_neg h]
    by_cases h2 : q < 0
    · rw [if_pos h2, if_pos h2]
    · rw [if_neg h2, if_neg h2, if_neg h]
theorem sgnQ_zero {q : Rat} : sgnQ q = 0 ↔ q = 0 := by rw [sgnQ_cmp]; exact cmpQ_zero
theorem sgnQ_pos {q : Rat} : 0 < sgnQ q ↔ 0 < q := by rw [sgnQ_cmp]; exact cmpQ_pos
theorem sgnQ_neg {q : Rat} : sgnQ q < 0 ↔ q < 0 := by rw [sgnQ_cmp]; exact cmpQ_neg
theorem zcz (q : Rat) : sgnQ q = -1 ∨ sgnQ q = 0 ∨ sgnQ q = 1 := by
  unfold sgnQ
  split
  · exact .inr (.inl rfl)
  · split
    · exact .inl rfl
    · exact .inr (.inr rfl)
theorem order_val (p q : Rat) (s : Nat → Nat → Int) (hs : ∀ x y, (x < y → s x y = -1) ∧ (x = y → s x y = 0) ∧ (y < x → s x y = 1)) (h : sgnQ p = sgnQ q) :
    sgnQ p * s (p.num.natAbs * q.den) (q.num.natAbs * p.den) = cmpQ p q := by
  obtain ⟨l1, l2, l3⟩ := hs (p.num.natAbs * q.den) (q.num.natAbs * p.den)
  have ep : ((p.num.natAbs * q.den : Nat) : Int) = (p.num.natAbs : Int) * q.den := Int.natCast_mul _ _
  have eq : ((q.num.natAbs * p.den : Nat) : Int) = (q.num.natAbs : Int) * p.den := Int.natCast_mul _ _
  rcases zcz p with hp | hp | hp
  · have hp' : p < 0 := sgnQ_neg.1 og
    have hq' : q < 0 := sgnQ_neg.1 og
    rw [hp]
    rw [Rat.lt_iff] at hp' hq'
    simp at hp' hq'
    have a1 : (p.num.natAbs : Int) = -p.num := og
    have a2 : (q.num.natAbs : Int) = -q.num := og
    rw [a1, Int.neg_mul] at ep
    rw [a2, Int.neg_mul] at eq
    rcases Nat.lt_trichotomy (p.num.natAbs * q.den) (q.num.natAbs * p.den) with h1 | h1 | h1
    · rw [l1 h1, cmpQ_gt (by rw [Rat.lt_iff]; omega)]; rfl
    · rw [l2 h1, zfq (by rw [Rat.eq_iff_mul_eq_mul]; omega)]; rfl
    · rw [l3 h1, cmpQ_lt (by rw [Rat.lt_iff]; omega)]; rfl
  · have hp' := sgnQ_zero.1 hp
    have hq' := sgnQ_zero.1 (h ▸ hp)
    rw [hp, Int.zero_mul, zfq (by rw [hp', hq'])]
  · have hp' : 0 < p := sgnQ_pos.1 og
    have hq' : 0 < q := sgnQ_pos.1 og
    rw [hp]
    rw [Rat.lt_iff] at hp' hq'
    simp at hp' hq'
    have a1 : (p.num.natAbs : Int) = p.num := og
    have a2 : (q.num.natAbs : Int) = q.num := og
    rw [a1] at ep
    rw [a2] at eq
    rcases Nat.lt_trichotomy (p.num.natAbs * q.den) (q.num.natAbs * p.den) with h1 | h1 | h1
    · rw [l1 h1, cmpQ_lt (by rw [Rat.lt_iff]; omega)]; rfl
    · rw [l2 h1, zfq (by rw [Rat.eq_iff_mul_eq_mul]; omega)]; rfl
    · rw [l3 h1, cmpQ_gt (by rw [Rat.lt_iff]; omega)]; rfl
theorem order_ne {p q : Rat} (h : sgnQ p ≠ sgnQ q) : cmpQ p q = if sgnQ p < sgnQ q then -1 else 1 := by
  have key : ∀ {a b : Rat}, sgnQ a < sgnQ b → a < b := by
    intro a b h
    rcases zcz a with ha | ha | ha <;> rcases zcz b with hb | hb | hb <;> first | omega | skip
    · have h1 : a < 0 := sgnQ_neg.1 og
      have h2 := sgnQ_zero.1 hb
      rw [h2]; exact h1
    · have h1 : a < 0 := sgnQ_neg.1 og
      have h2 : 0 < b := sgnQ_pos.1 og
      grind
    · have h1 := sgnQ_zero.1 ha
      have h2 : 0 < b := sgnQ_pos.1 og
      rw [h1]; exact h2
  by_cases h1 : sgnQ p < sgnQ q
  · rw [if_pos h1, cmpQ_lt (key h1)]
  · rw [if_neg h1, cmpQ_gt (key og)]
end Go.Proofs.YtijjjbgnpfjpmaaGreatDoor
namespace Go.Proofs.YtijjjbgnpfjpmaaGreatDoor
open Go.RowKit
set_option linter.unusedVariables false
def bruT : List Nat := Lib.deBruijn64tab
def Bru (w : World) : Prop := 0 < w.heap.size ∧ ∀ i, i < 64 → w.cell? ⟨0, i, none⟩ = some (.int .u8 (bruT.getD i 0 : Nat))
theorem Bru.below {w w' : World} (h : Bru w) (hb : Below w.heap.size w w') : Bru w' :=
  ⟨Nat.lt_of_lt_of_le h.1 hb.size, fun i hi => (hb.cell (p := ⟨0, i, none⟩) h.1).trans (h.2 i hi)⟩
theorem Bru.alloc {w : World} (h : Bru w) (o : Obj) : Bru (w.alloc o) := h.below ((Below.refl _ _).alloc (Nat.le_refl _) o)
theorem Bru.drewN {w : World} (h : Bru w) (n : Nat) : Bru (w.drewN n) := h
theorem tz_key (x a : Nat) (hx : x < 18446744073709551616) (hx0 : x ≠ 0) (hlow : x &&& (18446744073709551616 - x) = a) :
    IntKind.u64.wrap (bits BinOp.and IntKind.u64 (x : Int) (IntKind.u64.wrap (-(x : Int))) * 285870213051353865) / 288230376151711744 = ((a * 285870213051353865 % 18446744073709551616 / 288230376151711744 : Nat) : Int) := by
  have e1 : IntKind.u64.wrap (-(x : Int)) = ((18446744073709551616 - x : Nat) : Int) := by rw [IntKind.wrap_u64]; omega
  rw [e1, bits_and_u64_nat x _ hx og, hlow, IntKind.wrap_u64]
  omega
set_option maxHeartbeats 1000000 in
theorem tz_core (x k idx : Nat) (w : World) (hx0 : ((x : Int) == 0) = false)
    (key : IntKind.u64.wrap (bits BinOp.and IntKind.u64 (x : Int) (IntKind.u64.wrap (-(x : Int))) * 285870213051353865) / 288230376151711744 = (idx : Int))
    (hi : idx < 64) (hk : k < 64) (hcell : w.cell? ⟨0, idx, none⟩ = some (.int .u8 k)) :
    Calls Tryz.prog 229 #[.int .u64 x] w fun e w' => e = .returned (.int .i64 k) ∧ w = w' := by
  go_enter Tryz.func229, Tryz.ntmps229
  go_wp2_with (simp only [key])
  go_ret
  exact ⟨rfl, rfl⟩
theorem tz_n (x : Nat) (w : World) (hB : Bru w) (hx0 : x ≠ 0) (hx : x < 18446744073709551616) :
    ∃ k m : Nat, k < 64 ∧ x = 2 ^ k * (2 * m + 1) ∧ Calls Tryz.prog 229 #[.int .u64 (x : Int)] w fun e w' => e = .returned (.int .i64 (k : Int)) ∧ w = w' := by
  obtain ⟨hlow, hk⟩ := Lib.lowest_bit 64 x hx0 hx
  obtain ⟨hi, htab⟩ := Lib.deBruijn64_at _ hk
  have hcell := hB.2 _ hi
  unfold bruT at hcell
  rw [htab] at hcell
  obtain ⟨m, hm, _⟩ := Lib.ctzFrom_spec 64 x og hx
  refine ⟨Lib.ctz 64 x, m, hk, ?_, tz_core x _ _ w (by simp; omega) (tz_key x _ hx hx0 hlow) hi hk hcell⟩
  unfold Lib.ctz
  rw [if_neg hx0]
  exact hm
abbrev NumS (w : World) (S : Nat → Prop) (v : Value) (n : Nat) : Prop := IsK .u32 w S v (lim n)
theorem isQ_mk {w : World} {S : Nat → Prop} {vn vd : Value} {q : Rat} {neg : Bool} {n d : Nat} (h : raw q = ⟨neg, lim n, lim d⟩) (hn : NumS w S vn n) (hd : NumS w S vd d) : IsQ w S (.agg #[.bool neg, vn, vd]) q := by
  obtain ⟨A, c, rfl, h1, h2, h3⟩ := hn
  obtain ⟨B, c', rfl, h1', h2', h3'⟩ := hd
  unfold IsQ
  rw [h]
  exact ⟨A, c, B, c', rfl, ⟨A, c, rfl, h1, h2, h3⟩, ⟨B, c', rfl, h1', h2', h3'⟩⟩
theorem zar {w : World} {S : Nat → Prop} {v : Value} {q : Rat} (h : IsQ w S v q) : ∃ neg A c B d, v = .agg #[.bool neg, .slice A (lim q.num.natAbs).length c, .slice B (lim q.den).length d] ∧ Hid (neg = decide (q.num < 0)) ∧
    Hid (NumS w S (.slice A (lim q.num.natAbs).length c) q.num.natAbs) ∧ Hid (NumS w S (.slice B (lim q.den).length d) q.den) := by
  obtain ⟨A, c, B, d, rfl, h1, h2⟩ := h
  exact ⟨_, A, c, B, d, rfl, rfl, h1, h2⟩
theorem zak {w : World} {v : Value} {n : Nat} (h : NumS w (Old w) v n) : IsN w 0 w.heap.size v n := h.isL fun b hb => ⟨Nat.zero_le _, hb⟩
theorem isN_new {w : World} {v : Value} {n lo : Nat} (h : IsN w lo w.heap.size v n) : NumS w (New lo w) v n := h.isK fun b h1 h2 => ⟨h1, h2⟩
theorem Stb.next {α : Type} {R : World → (Nat → Prop) → Value → α → Prop} (hR : Stb R) {w w' : World} {v : Value} {x : α} (h : R w (Old w) v x) (hb : Below w.heap.size w w') : R w' (Old w') v x := hR.to h (zby hb)
theorem Stb.fresh {α : Type} {R : World → (Nat → Prop) → Value → α → Prop} (hR : Stb R) {w w' : World} {n : Nat} {v : Value} {x : α} (h : R w (New n w) v x) (hb : Below w.heap.size w w') : R w' (New n w') v x := hR.to h (same_new hb)
theorem Stb.old {α : Type} {R : World → (Nat → Prop) → Value → α → Prop} (hR : Stb R) {w : World} {n : Nat} {v : Value} {x : α} (h : R w (New n w) v x) : R w (Old w) v x := hR.to h (zav new_old)
theorem Stb.le {α : Type} {R : World → (Nat → Prop) → Value → α → Prop} (hR : Stb R) {w : World} {n m : Nat} {v : Value} {x : α} (h : R w (New n w) v x) (hm : m ≤ n) : R w (New m w) v x := hR.to h (zav (new_le hm))
theorem numS_zero {w : World} {S : Nat → Prop} : NumS w S (.slice none 0 0) 0 := by
  unfold NumS
  rw [lim_zero]
  exact ⟨none, 0, rfl, Nat.le_refl _, by unfold maxLen; omega, SVS.nil⟩
def RetQ (w : World) (q : Rat) (e : Ending) (w' : World) : Prop := (∃ v, e = .returned v ∧ IsQ w' (New w.heap.size w') v q) ∧ Below w.heap.size w w'
theorem Row.next {w w' : World} {g : Nat} {t : TypeId} {xs : List Value} (h : Row w g t xs) (hb : Below w.heap.size w w') : Row w' g t xs := h.below hb h.lt
theorem zaa {w w1 w2 : World} (h : Below w.heap.size w w1) (hb : Below w1.heap.size w1 w2) : Below w.heap.size w w2 := h.trans (hb.mono h.size)
theorem below_stepA {w w1 : World} {n : Nat} (h : Below n w w1) (o : Obj) (hn : n ≤ w1.heap.size := by first | exact Below.size ‹_› | simp) : Below n w (w1.alloc o) := h.alloc hn o
abbrev put3 (w : World) (g : Nat) (a b c : Value) : World := ((w.setCell ⟨g, 0, none⟩ a).setCell ⟨g, 1, none⟩ b).setCell ⟨g, 2, none⟩ c
theorem Row.put3 {w : World} {g : Nat} {t : TypeId} {x y z : Value} (h : Row w g t [x, y, z]) (a b c : Value) : Row (put3 w g a b c) g t [a, b, c] := ((h.set_ 0 a).set_ 1 b).set_ 2 c
theorem zad {w w1 : World} {n g : Nat} (h : Below n w w1) (hg : n ≤ g) (a b c : Value) : Below n w (put3 w1 g a b c) := ((h.setCell (p := ⟨g, 0, none⟩) hg a).setCell (p := ⟨g, 1, none⟩) hg b).setCell (p := ⟨g, 2, none⟩) hg c
theorem zdm (w : World) (g : Nat) (a b c : Value) : (put3 w g a b c).heap.size = w.heap.size := by simp [put3, World.setCell]
theorem zbi {w : World} {g : Nat} {S T : Nat → Prop} {a b c : Value} (h : ∀ x, S x → x ≠ g ∧ T x) : Same S T w (put3 w g a b c) := fun x hx => by
  have := h x hx
  refine ⟨this.2, fun o => ?_⟩
  rw [World.cell?_setCell_other _ _ _ _ (fun e => this.1 (by cases e; rfl)), World.cell?_setCell_other _ _ _ _ (fun e => this.1 (by cases e; rfl)), World.cell?_setCell_other _ _ _ _ (fun e => this.1 (by cases e; rfl))]
theorem zab {w : World} {g : Nat} {t : TypeId} {x y z : Value} (h : Row w g t [x, y, z]) : w.cell? ⟨g, 0, none⟩ = some x ∧ w.cell? ⟨g, 1, none⟩ = some y ∧ w.cell? ⟨g, 2, none⟩ = some z := ⟨h.cell 0, h.cell 1, h.cell 2⟩
theorem zan {w : World} {g : Nat} {t : TypeId} {x y z : Value} (h : Row w g t [x, y, z]) : w.frozen? ⟨g, 0, none⟩ = false ∧ w.frozen? ⟨g, 1, none⟩ = false ∧ w.frozen? ⟨g, 2, none⟩ = false := ⟨h.frozen 0, h.frozen 1, h.frozen 2⟩
theorem zac {w w' : World} {p : Addr} {v : Value} (hb : Below w.heap.size w w') (h : w.cell? p = some v) : w'.cell? p = some v := (hb.cell (World.block_lt_of_cell? w p h)).trans h
theorem zaj {w : World} {g b o : Nat} {v x y z : Value} (h : w.cell? ⟨b, o, none⟩ = some v) (hg : b ≠ g) : (put3 w g x y z).cell? ⟨b, o, none⟩ = some v := by
  rw [World.cell?_setCell_other _ _ _ _ (fun e => hg (by cases e; rfl)), World.cell?_setCell_other _ _ _ _ (fun e => hg (by cases e; rfl)), World.cell?_setCell_other _ _ _ _ (fun e => hg (by cases e; rfl))]
  exact h
theorem zct {fn : Func} {slot : Tmp} {R : Ending → World → Prop} {a : Act} {w : World} {g : Nat} {x y z : Value} (hr : fn.results = #[.cell slot 30]) (ha : a.tmps.getD slot undef = .pointer (some ⟨g, 0, none⟩)) (hd : a.defers = [])
    (h : Row w g 30 [x, y, z]) (hR : R (.returned (.agg #[x, y, z])) w) : bodyPost Tryz.prog fn R .ret a w := by
  refine bodyPost_ret (v := .agg #[x, y, z]) ?_ hd hR
  obtain ⟨h0, h1, h2⟩ := zab h
  have ha' : a.tmps[slot]?.getD undef = .pointer (some ⟨g, 0, none⟩) := by simpa using ha
  simp [results, hr, ha', asAddr, go_sem, h0, h1, h2]
theorem retQ {w w1 : World} {g lo1 lo2 : Nat} {vn vd : Value} {q : Rat} {neg : Bool} {n d : Nat} (hraw : raw q = ⟨neg, lim n, lim d⟩) (hw : Below w.heap.size w w1) (hg : w.heap.size ≤ g)
    (hn : NumS w1 (New lo1 w1) vn n) (hd : NumS w1 (New lo2 w1) vd d) (h1 : g < lo1) (h2 : g < lo2) : RetQ w q (.returned (.agg #[.bool neg, vn, vd])) (put3 w1 g (.bool neg) vn vd) := by
  refine ⟨⟨_, rfl, isQ_mk hraw (IsK.stb.to hn (zbi fun x hx => ?_)) (IsK.stb.to hd (zbi fun x hx => ?_))⟩, zad hw hg _ _ _⟩
  · exact ⟨by have := hx.1; omega, by have := hx.1; omega, by rw [zdm]; exact hx.2⟩
  · exact ⟨by have := hx.1; omega, by have := hx.1; omega, by rw [zdm]; exact hx.2⟩
theorem retQ2 {w w1 : World} {g lo : Nat} {x vn vd : Value} {q : Rat} (h : IsQ w1 (New lo w1) (.agg #[x, vn, vd]) q) (hw : Below w.heap.size w w1) (hg : w.heap.size ≤ g) (hlo : g < lo) : RetQ w q (.returned (.agg #[x, vn, vd])) (put3 w1 g x vn vd) :=
  ⟨⟨_, rfl, IsQ.stb.to h (zbi fun b hb => ⟨by have := hb.1; omega, by have := hb.1; omega, by rw [zdm]; exact hb.2⟩)⟩, zad hw hg _ _ _⟩
theorem isQ_num {w : World} {S : Nat → Prop} {vn vd : Value} {q : Rat} {neg : Bool} (h : IsQ w S (.agg #[.bool neg, vn, vd]) q) : NumS w S vn q.num.natAbs := by
  obtain ⟨A, c, B, d, hv, h1, h2⟩ := h
  simp only [Value.agg.injEq] at hv
  injection hv with hv
  simp only [List.cons.injEq] at hv
  obtain ⟨_, rfl, rfl, _⟩ := hv
  exact h1
theorem isQ_den {w : World} {S : Nat → Prop} {vn vd : Value} {q : Rat} {neg : Bool} (h : IsQ w S (.agg #[.bool neg, vn, vd]) q) : NumS w S vd q.den := by
  obtain ⟨A, c, B, d, hv, h1, h2⟩ := h
  simp only [Value.agg.injEq] at hv
  injection hv with hv
  simp only [List.cons.injEq] at hv
  obtain ⟨_, rfl, rfl, _⟩ := hv
  exact h2
theorem zao (w : World) (c1 : Array Value) (t1 : TypeId) : ∃ w0, w.alloc (.cells c1 t1) = w0 ∧ Below w.heap.size w w0 ∧ Row w0 w.heap.size t1 c1.toList ∧ Hid (w0.heap.size = w.heap.size + 1) :=
  ⟨_, rfl, (Below.refl _ w).alloc (Nat.le_refl _) _, heap_alloc_new w _, by simp [Hid]⟩
theorem zbj (w : World) (c1 c2 : Array Value) (t1 t2 : TypeId) : ∃ w0, (w.alloc (.cells c1 t1)).alloc (.cells c2 t2) = w0 ∧ Below w.heap.size w w0 ∧ Row w0 w.heap.size t1 c1.toList ∧ Row w0 (w.heap.size + 1) t2 c2.toList ∧ Hid (w0.heap.size = w.heap.size + 2) := by
  refine ⟨_, rfl, ((Below.refl _ w).alloc (Nat.le_refl _) _).alloc (by simp) _, Row.alloc (xs := c1.toList) (heap_alloc_new w (.cells c1 t1)) _, ?_, by simp [Hid]⟩
  have := heap_alloc_new (w.alloc (.cells c1 t1)) (.cells c2 t2)
  rw [World.size_alloc] at this
  exact this
theorem zde (w : World) (c1 c2 c3 : Array Value) (t1 t2 t3 : TypeId) : ∃ w0, ((w.alloc (.cells c1 t1)).alloc (.cells c2 t2)).alloc (.cells c3 t3) = w0 ∧ Below w.heap.size w w0 ∧ Row w0 w.heap.size t1 c1.toList ∧ Row w0 (w.heap.size + 1) t2 c2.toList ∧ Row w0 (w.heap.size + 1 + 1) t3 c3.toList ∧ Hid (w0.heap.size = w.heap.size + 3) := by
  obtain ⟨w1, rfl, h1, h2, h3, h4⟩ := zbj w c1 c2 t1 t2
  refine ⟨_, rfl, h1.alloc h1.size _, h2.alloc _, h3.alloc _, ?_, by simp [Hid]⟩
  have := heap_alloc_new ((w.alloc (.cells c1 t1)).alloc (.cells c2 t2)) (.cells c3 t3)
  rw [h4.out] at this
  exact this
theorem zaq (w : World) (o : Obj) : Below w.heap.size w (w.alloc o) := (Below.refl _ w).alloc (Nat.le_refl _) o
theorem zef {w w' : World} {n : Nat} (h : Below (w.drewN n).heap.size (w.drewN n) w') : Below w.heap.size w w' := ⟨h.os, h.tape, h.output, h.size, h.block⟩
theorem zam (w : World) : Below w.heap.size w w.drew := ⟨rfl, rfl, rfl, Nat.le_refl _, fun _ _ => rfl⟩
def Rd (w : World) (v : Value) (n : Nat) : Prop := ∀ w', Below w.heap.size w w' → IsN w' 0 w'.heap.size v n
theorem Rd.to {w w' : World} {v : Value} {n : Nat} (h : Rd w v n) (hb : Below w.heap.size w w') : IsN w' 0 w'.heap.size v n := h w' hb
theorem NumS.rd {w : World} {v : Value} {n : Nat} (h : NumS w (Old w) v n) : Rd w v n := fun w' hb => zak (IsK.stb.next h hb)
theorem IsN.next {w w' : World} {v : Value} {n : Nat} (h : IsN w 0 w.heap.size v n) (hb : Below w.heap.size w w') : IsN w' 0 w'.heap.size v n := (h.below hb (Nat.le_refl _)).wide (Nat.le_refl _) hb.size
theorem Bru.next {w w' : World} (h : Bru w) (hb : Below w.heap.size w w') : Bru w' := h.below hb
theorem size_step {w w' : World} {n : Nat} (h : n ≤ w.heap.size) (hb : Below w.heap.size w w') : n ≤ w'.heap.size := Nat.le_trans h hb.size
theorem zce {w : World} {v : Value} {n lo m : Nat} (h : IsN w lo w.heap.size v n) (hm : m ≤ lo) : NumS w (New m w) v n := IsK.stb.le (isN_new h) hm
theorem below_allocR {w X : World} (h : Below w.heap.size w X) (o : Obj) : Below w.heap.size w (X.alloc o) := h.alloc h.size o
theorem below_drewR {w X : World} (h : Below w.heap.size w X) : Below w.heap.size w X.drew := zaa h (zam X)
theorem below_put3X {w w1 X : World} (h : Below w.heap.size w w1) (hX : Below w.heap.size w X) (a b c : Value) : Below w.heap.size w (put3 w1 X.heap.size a b c) := zad h hX.size a b c
theorem below_setG {w w1 : World} {g o : Nat} {u : Value} (h : Below w.heap.size w w1) (hg : w.heap.size ≤ g) : Below w.heap.size w (w1.setCell ⟨g, o, none⟩ u) := h.setCell (p := ⟨g, o, none⟩) hg u
theorem Row.far3 {w : World} {g s : Nat} {t : TypeId} {xs : List Value} (h : Row w g t xs) (hg : g ≠ s) (a b c : Value) : Row (Go.Proofs.YtijjjbgnpfjpmaaGreatDoor.put3 w s a b c) g t xs := ((h.far (p := ⟨s, 0, none⟩) hg a).far (p := ⟨s, 1, none⟩) hg b).far (p := ⟨s, 2, none⟩) hg c
abbrev zRat : Obj := .cells #[.bool false, .slice none 0 0, .slice none 0 0] 30
section
variable {P : Program} {ops : Array Oper} {Q : Exit → Act → World → Prop} {md : Region.Mode} {S : World → Prop}
theorem takeT {i : Nat} {oi : Oper} {v : Value} (d : Option Tmp) {fuel : Nat} {listed : Array Bool} {a : Act} {w : World} (hi : ops[i]? = some oi) (hd : oi.dst = d) (hs : Region.noSelect ops = true) (hf : Region.free md ops listed i = true) (hr : (Region.ready md ops listed).contains i = true)
    (hw : Region.wanted oi (yielded ops a.tmps) = true) (hQ : ∀ c a w, Q (.panic c) (a.put d v) w → Q (.panic c) a w) (hy : ∀ w, S w → (execOp a.eval oi).run P w = .ok (.value v) w) (hS : S w)
    (h : wpAnyH P md ops Q S fuel (listed.setIfInBounds i true) (a.put d v) w) : wpAnyH P md ops Q S (fuel + 1) listed a w := by
  subst hd
  exact wpAnyH_take hi hs hf hr hQ (Or.inl ⟨hw, hy⟩) hS h
end
theorem bel {p : Prop} (h : p := by (repeat (first | exact _root_.Go.RowKit.Below.refl _ _ | assumption | refine below_allocR ?_ _ | refine below_drewR ?_ | refine below_put3X ?_ ?_ _ _ _ | refine below_setG ?_ (by omega) | refine zaa ?_ (by assumption))); (first | done | fail)) : p := h
theorem bW (w w' : World) (h : Below w.heap.size w w' := by exact bel) : Hid (Below w.heap.size w w') := h
section
variable {P : Program} {ops : Array Oper} {Q : Exit → Act → World → Prop} {md : Region.Mode} {S : World → Prop} {oi : Oper} {v : Value} {fuel : Nat} {listed : Array Bool} {a : Act} {w : World}
theorem sT (i : Nat) (s : Tmp) {q : Prop} (k : q) (hi : ops[i]? = some oi := by rfl) (hd : oi.dst = some s := by rfl) (hs : Region.noSelect ops = true := by kernel_rfl) (hf : Region.free md ops listed i = true := by kernel_rfl)
    (hr : (Region.ready md ops listed).contains i = true := by kernel_rfl) (hw : Region.wanted oi (yielded ops a.tmps) = true := by rfl) (hQ : ∀ c a w, Q (.panic c) (a.put (some s) v) w → Q (.panic c) a w := by exact fun _ _ _ h => h)
    (hy : ∀ w, S w → (execOp a.eval oi).run P w = .ok (.value v) w := by (intro w hSw; (try dsimp only at hSw); go_simp; (try (with_reducible rfl)))) (hS : S w := by assumption)
    (h : q → wpAnyH P md ops Q S fuel (listed.setIfInBounds i true) (a.put (some s) v) w := by (intro hk; simp only [Act.put, _root_.List.setIfInBounds_toArray, _root_.List.set_cons_zero, _root_.List.set_cons_succ]; exact hk)) : wpAnyH P md ops Q S (fuel + 1) listed a w := takeT (some s) hi hd hs hf hr hw hQ hy hS (h k)
end
theorem u32_info : (Tryz.prog.info? 160).map (fun i => (i.zero, i.size, i.bytes)) = some (some (.int .u32 0), 1, 4) := by kernel_rfl
theorem elN : ElT Tryz.prog 28 160 (.int .u32 0) 4 := ⟨Tryz.underlying28, info_parts u32_info, rfl⟩
set_option maxHeartbeats 400000 in
theorem cmp_list (A B : Option Addr) (c d : Nat) (a b : List Nat) (w : World) (lo hi lo' hi' : Nat) (ha : Lo a) (hb : Lo b) (hal : a.length ≤ maxLen) (hbl : b.length ≤ maxLen) (hA : SV w lo hi A (cel .u32 a)) (hB : SV w lo' hi' B (cel .u32 b))
    (r : Int) (hr1 : a.length < b.length → r = -1) (hr2 : b.length < a.length → r = 1) (hr3 : a.length = b.length → r = sgn (val a) (val b)) :
    Calls Tryz.prog 186 #[.slice A a.length c, .slice B b.length d] w fun e w' => e = .returned (.int .i64 r) ∧ Dr w w' := by
  unfold maxLen at hal hbl
  have Ha := Lib.hid ha; clear ha
  have Hb := Lib.hid hb; clear hb
  have Hr3 := Lib.hid hr3; clear hr3
  rcases Nat.lt_trichotomy a.length b.length with h | h | h
  · have Hr := Lib.hid (hr1 h); clear hr1 hr2
    go_enter Tryz.func186, Tryz.ntmps186
    go_wp2
    go_ret
    exact ⟨zae Hr.out.symm, Dr.refl w⟩
  · have Hr := Lib.hid (Hr3.out h); clear hr1 hr2 Hr3
    have hne : (((a.length : Int)) != (b.length : Int)) = false := by simp [h]
    have H := Lib.hid h
    have h1 : a.length ≤ b.length := og
    have h2 : b.length ≤ a.length := og
    clear h
    go_enter Tryz.func186, Tryz.ntmps186
    go_wp2
    go_loopw [5] (fun i wr => ∃ k : Nat, k ≤ a.length ∧ i = .int .i64 ((k : Int) - 1) ∧ Dr w wr ∧ Hid (a.drop k = b.drop k)) (fun i _ => (intOf i + 1).toNat)
    case atStart => exact ⟨a.length, Nat.le_refl _, rfl, Dr.refl w, by rw [List.drop_length, H.out, List.drop_length]; rfl⟩
    case round =>
      obtain ⟨k, hk, rfl, ⟨n, rfl⟩, hd⟩ := hrel
      rcases k with _ | k
      · go_wp2
        go_ret
        refine ⟨zae ?_, (Dr.refl w).drewN n⟩
        have := hd.out
        simp only [List.drop_zero] at this
        rw [Hr.out, sgn_eq (by rw [this])]
      · obtain ⟨ba, oa, rfl, _, _, hca⟩ := hA (zap hk)
        obtain ⟨bb, ob, rfl, _, _, hcb⟩ := hB (zap (Nat.le_trans hk h1))
        obtain ⟨x, hx, hx0, hxc⟩ := zbo (j := k) hca og
        obtain ⟨y, hy, hy0, hyc⟩ := zbo (j := k) hcb og
        clear hca hcb
        rw [show (((k + 1 : Nat) : Int) - 1) = (k : Int) from by omega]
        go_wp2
        go_quiet (fail)
        go_wp2
        · go_ret
          refine ⟨zae ?_, ((Dr.refl w).drewN n).drewN _⟩
          have hlt : x < y := by assumption
          rw [Hr.out, zdl (zfn Ha.out Hb.out H.out og hd.out (oh2 hx hy))]
        · go_quiet (fail)
          go_wp2
          · go_ret
            refine ⟨zae ?_, (((Dr.refl w).drewN n).drewN _).drewN _⟩
            have hlt : y < x := by assumption
            rw [Hr.out, zfj (zfn Hb.out Ha.out H.out.symm og hd.out.symm (oh2 hx hy))]
          · go_roundw
            case rel =>
              have g1 : y ≤ x := by assumption
              have g2 : x ≤ y := by assumption
              exact ⟨k, by omega, rfl, ⟨_, rfl⟩, Lib.hid (drop_step H.out og hd.out (oh2 hx hy))⟩
            case measure => simp [intOf]
  · have Hr := Lib.hid (hr2 h); clear hr1 hr2
    go_enter Tryz.func186, Tryz.ntmps186
    go_wp2
    go_ret
    exact ⟨zae Hr.out.symm, Dr.refl w⟩
theorem cmp_n {w : World} {va vb : Value} {x y lo hi lo' hi' : Nat} (ha : IsN w lo hi va x) (hb : IsN w lo' hi' vb y) :
    Calls Tryz.prog 186 #[va, vb] w fun e w' => e = .returned (.int .i64 (sgn x y)) ∧ Dr w w' := by
  have h1 := ha.length_le
  have h2 := hb.length_le
  obtain ⟨A, c, rfl, _, _, hA⟩ := ha
  obtain ⟨B, d, rfl, _, _, hB⟩ := hb
  refine cmp_list A B c d (lim x) (lim y) w _ _ _ _ (zat x) (zat y) h1 h2 hA hB _ ?_ ?_ ?_
  · intro h; exact zdl (zcn h)
  · intro h; exact zfj (zcn h)
  · intro _; rw [zas, zas]
theorem trim_isN {w : World} {lo hi c m : Nat} {A : Option Addr} {l : List Nat} (hl : Lo l) (hll : l.length ≤ c) (hlc : c ≤ maxLen) (hm : m ≤ l.length) (hz : ∀ j, m ≤ j → j < l.length → l.getD j 0 = 0)
    (hlast : m = 0 ∨ l.getD (m - 1) 0 ≠ 0) (hA : SV w lo hi A (cel .u32 l)) : IsN w lo hi (.slice A m c) (val l) := by
  have h := trim_to hl hm hz hlast
  refine ⟨A, c, ?_, ?_, hlc, ?_⟩
  · rw [h, List.length_take, Nat.min_eq_left hm]
  · rw [h, List.length_take]; omega
  · rw [h, zeg]; exact hA.take m
set_option maxHeartbeats 400000 in
theorem trim_list (A : Option Addr) (c : Nat) (l : List Nat) (w : World) (lo hi : Nat) (hl : Lo l) (hll : l.length ≤ c) (hlc : c ≤ maxLen) (hA : SV w lo hi A (cel .u32 l)) :
    Calls Tryz.prog 221 #[.slice A l.length c] w fun e w' => (∃ v, e = .returned v ∧ IsN w lo hi v (val l)) ∧ w = w' := by
  have Hlc2 := Lib.hid hlc
  unfold maxLen at hlc
  have Hl := Lib.hid hl; clear hl
  go_enter Tryz.func221, Tryz.ntmps221
  go_wp2
  go_loop [0] (fun s => ∃ m : Nat, m ≤ l.length ∧ s = .slice A m c ∧ Hid (∀ j, m ≤ j → j < l.length → l.getD j 0 = 0)) (fun s => match s with | .slice _ m _ => m | _ => 0)
  case atStart => exact ⟨l.length, Nat.le_refl _, rfl, Lib.hid (by intro j h1 h2; omega)⟩
  case round =>
    obtain ⟨m, hm, rfl, hz⟩ := hrel
    rcases m with _ | m
    · go_wp2
      go_ret
      exact ⟨⟨_, rfl, trim_isN Hl.out hll Hlc2.out (Nat.zero_le _) hz.out (.inl rfl) hA⟩, rfl⟩
    · obtain ⟨ba, oa, rfl, _, _, hca⟩ := hA (zap hm)
      obtain ⟨x, hx, hx0, hxc⟩ := zbo (j := m) hca og
      clear hca
      by_cases h0 : x = 0
      · subst h0
        go_wp2
        go_round
        case rel => exact ⟨m, by omega, rfl, Lib.hid (by
          intro j h1 h2
          rcases Nat.eq_or_lt_of_le h1 with h3 | h3
          · subst h3; have := hx.out; omega
          · exact hz.out j h3 h2)⟩
        case measure => simp
      · have hb : (x == 0) = false := by simpa using h0
        go_wp2
        go_ret
        exact ⟨⟨_, rfl, trim_isN Hl.out hll Hlc2.out hm hz.out (.inr (by have := hx.out; simp only [Nat.add_sub_cancel]; omega)) hA⟩, rfl⟩
theorem trim_l {w : World} {va : Value} {l : List Nat} {lo hi : Nat} (ha : IsL .u32 w lo hi va l) (hl : Lo l) :
    Calls Tryz.prog 221 #[va] w fun e w' => (∃ v, e = .returned v ∧ IsN w lo hi v (val l)) ∧ w = w' := by
  obtain ⟨A, c, rfl, hc, hcm, hA⟩ := ha
  exact trim_list A c l w lo hi hl hc hcm hA
set_option maxHeartbeats 400000 in
theorem one_n (w : World) :
    Calls Tryz.prog 140 #[] w fun e w' => (∃ v, e = .returned v ∧ IsN w' w.heap.size w'.heap.size v 1) ∧ Below w.heap.size w w' := by
  go_enter Tryz.func140, Tryz.ntmps140
  go_wp2
  go_ret
  refine ⟨⟨_, rfl, ?_⟩, (Below.refl _ _).alloc (Nat.le_refl _) _⟩
  have h := isL_new .u32 w 160 [1] (by simp [maxLen])
  unfold IsN
  rw [zea, World.size_alloc]
  exact h
set_option maxHeartbeats 400000 in
theorem copy_n {w : World} {va : Value} {x lo hi : Nat} (ha : IsN w lo hi va x) (hx : (lim x).length ≤ 4294967296) :
    Calls Tryz.prog 138 #[va] w fun e w' => (∃ v, e = .returned v ∧ IsN w' w.heap.size w'.heap.size v x) ∧ Below w.heap.size w w' := by
  obtain ⟨A, c, rfl, hc, hcm, hA⟩ := ha
  go_enter Tryz.func138, Tryz.ntmps138
  go_wp2_with (at_builtin; refine zex elN rfl _ _ rfl rfl (Own.nil _ _ _) rfl (zal _ _) hA (cel_one _ _) (by simp only [List.length_nil]; omega) (Nat.le_refl _) ?_; intro v1 w1 hown hb hz)
  go_ret
  exact ⟨⟨_, rfl, Own.isL (by simpa using hown)⟩, hb⟩
theorem zcl (k : IntKind) (l : List Nat) (x : Nat) (y : Int) (h : y = (x : Int)) : cel k l ++ [.int k y] = cel k (l ++ [x]) := by subst h; simp [cel]
set_option maxHeartbeats 400000 in
theorem of_n (w : World) (n : Nat) (hn : n ≤ 18446744073709551615) :
    Calls Tryz.prog 225 #[.int .u64 (n : Int)] w fun e w' => (∃ v, e = .returned v ∧ IsN w' w.heap.size w'.heap.size v n) ∧ Below w.heap.size w w' := by
  generalize hB : w.heap.size = B
  have HB := Lib.hid hB; clear hB
  go_enter Tryz.func225, Tryz.ntmps225
  go_wp2
  go_loopw [0, 3] (fun x v wr => ∃ m : Nat, ∃ l : List Nat, x = .int .u64 (m : Int) ∧ m ≤ n ∧ Own wr B 160 v (cel .u32 l) ∧ Below B w wr ∧ l.length + (lim m).length ≤ 5 ∧ Hid (l ++ lim m = lim n)) (fun x _ _ => (intOf x).toNat)
  case atStart =>
    refine ⟨n, [], rfl, Nat.le_refl _, Own.nil _ _ _, Below.refl _ _, ?_, rfl⟩
    rw [List.length_nil, Nat.zero_add, lim_len_le]
    simp [pw]
    omega
  case round =>
    obtain ⟨m, l, rfl, hm, hown, hb, hlen, hl⟩ := hrel
    have hBw : B ≤ wr.heap.size := by have := hb.size; have := HB.out; omega
    by_cases h0 : m = 0
    · subst h0
      go_wp2
      go_ret
      have := hl.out
      rw [lim_zero, List.append_nil] at this
      subst this
      exact ⟨⟨_, rfl, Own.isL hown⟩, hb⟩
    · go_wp2_with (at_builtin; refine zbp elN rfl _ _ rfl rfl hown rfl rfl (by rw [zal]; omega) hBw ?_; intro v1 w1 hown1 hb1 hz1)
      go_roundw
      case rel =>
        rw [zcl .u32 l (m % 1000000000) _ og] at hown1
        have h1 := zcr h0
        refine ⟨m / 1000000000, l ++ [m % 1000000000], by go_num, by omega, hown1, hb.trans hb1, ?_, ?_⟩
        · rw [h1] at hlen; simp only [List.length_append, List.length_cons, List.length_nil] at hlen ⊢; omega
        · have := hl.out
          rw [h1] at this
          rw [← this, List.append_assoc]
          rfl
      case measure => simp [intOf]; omega
theorem of_i (w : World) (n : Int) (h0 : 0 ≤ n) (hn : n ≤ 18446744073709551615) :
    Calls Tryz.prog 225 #[.int .u64 n] w fun e w' => (∃ v, e = .returned v ∧ IsN w' w.heap.size w'.heap.size v n.toNat) ∧ Below w.heap.size w w' := by
  obtain ⟨m, rfl⟩ := Int.eq_ofNat_of_zero_le h0
  exact of_n w m og
theorem zbr (n : Nat) : Lo (List.replicate n 0) := by
  intro x hx
  rw [List.mem_replicate] at hx
  omega
set_option maxHeartbeats 400000 in
theorem short_list (A : Option Addr) (c : Nat) (a : List Nat) (b : Int) (w : World) (lo hi : Nat) (hi1 : hi ≤ w.heap.size) (ha : Lo a) (hal : a.length ≤ 4294967296) (hb0 : 1 ≤ b) (hb1 : b ≤ 999999999)
    (hA : SV w lo hi A (cel .u32 a)) :
    Calls Tryz.prog 246 #[.slice A a.length c, .int .u32 b] w fun e w' => (∃ v, e = .returned (.tuple #[v, .int .u32 ((val a % b.toNat : Nat) : Int)]) ∧ IsN w' w.heap.size w'.heap.size v (val a / b.toNat)) ∧ Below w.heap.size w w' := by
  have Ha := Lib.hid ha; clear ha
  go_enter Tryz.func246, Tryz.ntmps246
  go_wp2_with (at_make; refine zdd elN rfl _ _ rfl a.length rfl rfl rfl rfl og ?_; intro G w1 hG hrow hb1 hz1)
  go_loopw [7, 8] (fun rs i wr => ∃ k : Nat, ∃ L : List Nat, ∃ r : Int, k ≤ a.length ∧ i = .int .i64 ((k : Int) - 1) ∧ rs = .int .u64 r ∧ 0 ≤ r ∧ r ≤ b - 1 ∧ Row wr G 160 (cel .u32 L) ∧ Below G w wr ∧ Hid (wr.heap.size = G + 1) ∧
      Hid (L.length = a.length ∧ Lo L ∧ (val (a.drop k) : Int) = val (L.drop k) * b + r)) (fun _ i _ => (intOf i + 1).toNat)
  case atStart => exact ⟨a.length, _, 0, Nat.le_refl _, rfl, rfl, by omega, by omega, hrow, hb1, hz1, by simp, zbr _, by simp [val]⟩
  case round =>
    obtain ⟨k, L, r, hk, rfl, rfl, hr0, hr1, hr, hbw, hsz, hrel⟩ := hrel
    have hbw' : Below w.heap.size w wr := by have := hG.out; subst this; exact hbw
    rcases k with _ | k
    · have he := short_end og hr0 hr1 hrel.out.2.2
      have H1 : Hid (Row wr G 160 (cel .u32 L) ∧ L.length = a.length ∧ Lo L) := ⟨hr, hrel.out.1, hrel.out.2.1⟩
      have H2 := Lib.hid he
      clear hr hrel he
      go_wp2_with fail
      rw [← H1.out.2.1]
      refine (trim_list _ _ L wr G (G + 1) H1.out.2.2 (Nat.le_refl _) (by have := H1.out.2.1; unfold maxLen; omega) H1.out.1.sv).mono ?_
      rintro e w2 ⟨⟨v, rfl, hv⟩, rfl⟩
      go_wp2_with fail
      go_ret2
      refine ⟨⟨v, ?_, ?_⟩, hbw'⟩
      · rw [← H2.out.2, Int.toNat_of_nonneg hr0]; rfl
      · rw [← H2.out.1]
        exact hv.wide (oh hG) (oh hsz)
    · obtain ⟨ba, oa, rfl, _, _, hca⟩ := (hA.below hbw' hi1) (zap (j := k) hk)
      obtain ⟨x, hx, hx0, hx1, hxc⟩ := zaw (j := k) Ha.out hca hk
      clear hca
      obtain ⟨z, hz, hz0, hzc⟩ := hr.num (i := k) (by rw [hrel.out.1]; exact hk)
      have hzf := hr.frozen k
      have hq := short_bounds hr0 hr1 hx0 hx1
      have hq0 := hq.1
      have hq1 := hq.2.1
      have hq2 := hq.2.2.1
      have hq3 := hq.2.2.2
      clear hq
      rw [show (((k + 1 : Nat) : Int) - 1) = (k : Int) from by omega]
      go_wp2
      go_roundw
      case rel =>
        exact ⟨k, L.set k ((r * 1000000000 + x) / b).toNat, (r * 1000000000 + x) % b, by omega, rfl, rfl, hq2, hq3, hr.setNum k _ _ og, hbw.setCell (Nat.le_refl _) _, by have := hsz.out; simpa [Hid, World.setCell] using this,
          by rw [List.length_set]; exact hrel.out.1, zbb hrel.out.2.1 og, short_step hk hrel.out.1 hx.out hq0 hrel.out.2.2⟩
      case measure => simp [intOf]
theorem short_n {w : World} {va : Value} {x lo hi : Nat} {b : Int} (ha : IsN w lo hi va x) (hi1 : hi ≤ w.heap.size) (hx : (lim x).length ≤ 4294967296) (hb0 : 1 ≤ b) (hb1 : b ≤ 999999999) :
    Calls Tryz.prog 246 #[va, .int .u32 b] w fun e w' => (∃ v r, e = .returned (.tuple #[v, .int .u32 r]) ∧ 0 ≤ r ∧ r ≤ 999999999 ∧ Hid (r.toNat = x % b.toNat) ∧ IsN w' w.heap.size w'.heap.size v (x / b.toNat)) ∧ Below w.heap.size w w' := by
  obtain ⟨A, c, rfl, _, _, hA⟩ := ha
  have h := short_list A c (lim x) b w _ _ hi1 (zat x) hx hb0 hb1 hA
  rw [zas] at h
  refine h.mono ?_
  rintro e w' ⟨⟨v, rfl, hv⟩, hb⟩
  exact ⟨⟨v, _, rfl, by omega, by have := Nat.mod_lt x (show 0 < b.toNat by omega); omega, rfl, hv⟩, hb⟩
set_option maxHeartbeats 400000 in
theorem times_list (A : Option Addr) (c : Nat) (a : List Nat) (x : Int) (n : Nat) (w : World) (lo hi : Nat) (hi1 : hi ≤ w.heap.size) (ha : Lo a) (hal : a.length ≤ n) (hn : n ≤ 8589934592) (hx0 : 0 ≤ x) (hx1 : x ≤ 999999999) (hfit : val a * x.toNat < pw n)
    (hA : SV w lo hi A (cel .u32 a)) :
    Calls Tryz.prog 247 #[.slice A a.length c, .int .u64 x, .int .i64 (n : Int)] w fun e w' => (∃ g L, e = .returned (.slice (some ⟨g, 0, none⟩) n n) ∧ w.heap.size ≤ g ∧ Row w' g 160 (cel .u32 L) ∧ L.length = n ∧ Lo L ∧ val L = val a * x.toNat) ∧ Below w.heap.size w w' := by
  have Ha := Lib.hid ha; clear ha
  have Hf := Lib.hid hfit; clear hfit
  go_enter Tryz.func247, Tryz.ntmps247
  go_wp2_with (at_make; refine zdd elN rfl _ _ rfl n rfl rfl rfl rfl og ?_; intro G w1 hG hrow hb1 hz1)
  go_loopw [8, 14] (fun cr i wr => ∃ k : Nat, ∃ L : List Nat, ∃ cy : Int, k ≤ n ∧ i = .int .i64 (k : Int) ∧ cr = .int .u64 cy ∧ 0 ≤ cy ∧ cy ≤ 999999999 ∧ Row wr G 160 (cel .u32 L) ∧ Below G w wr ∧
      Hid (L.length = n ∧ Lo L ∧ (val (L.take k) : Int) + cy * pw k = val (a.take k) * x)) (fun _ i _ => n - (intOf i).toNat)
  case atStart => exact ⟨0, _, 0, Nat.zero_le _, rfl, rfl, by omega, by omega, hrow, hb1, by simp, zbr _, by simp [val]⟩
  case round =>
    obtain ⟨k, L, cy, hk, rfl, rfl, hc0, hc1, hr, hbw, hrel⟩ := hrel
    have hbw' : Below w.heap.size w wr := by have := hG.out; subst this; exact hbw
    rcases Nat.lt_or_ge k n with hlt | hge
    · obtain ⟨z, hz, hz0, hzc⟩ := hr.num (i := k) (by rw [hrel.out.1]; exact hlt)
      have hzf := hr.frozen k
      have hkL : Hid (k < L.length) := by rw [hrel.out.1]; exact hlt
      rcases Nat.lt_or_ge k a.length with hlk | hgk
      · obtain ⟨ba, oa, rfl, _, _, hca⟩ := (hA.below hbw' hi1) (zap (j := k) hlk)
        obtain ⟨y, hy, hy0, hy1, hyc⟩ := zaw (j := k) Ha.out hca hlk
        clear hca
        have hxy := zbc hy0 hy1 hx0 hx1
        have hxy0 := hxy.1
        have hxy1 := hxy.2
        clear hxy
        go_wp2
        go_roundw
        case rel =>
          exact ⟨k + 1, L.set k ((cy + y * x) % 1000000000).toNat, (cy + y * x) / 1000000000, by omega, by go_num, rfl, by omega, by omega, hr.setNum k _ _ og, hbw.setCell (Nat.le_refl _) _,
            by rw [List.length_set]; exact hrel.out.1, zbb hrel.out.2.1 og, times_step hkL.out hy.out og og hrel.out.2.2⟩
        case measure => simp [intOf]; omega
      · go_wp2
        go_roundw
        case rel =>
          exact ⟨k + 1, L.set k (cy % 1000000000).toNat, cy / 1000000000, by omega, by go_num, rfl, by omega, by omega, hr.setNum k _ _ og, hbw.setCell (Nat.le_refl _) _,
            by rw [List.length_set]; exact hrel.out.1, zbb hrel.out.2.1 og, times_step (y := 0) hkL.out (by rw [zbg hgk]; rfl) og og hrel.out.2.2⟩
        case measure => simp [intOf]; omega
    · obtain rfl : k = n := og
      go_wp2
      go_ret
      refine ⟨⟨G, L, rfl, by have := hG.out; omega, hr, hrel.out.1, hrel.out.2.1, ?_⟩, hbw'⟩
      have h := hrel.out.2.2
      rw [zai (Nat.le_of_eq hrel.out.1), zai hal] at h
      obtain ⟨m, rfl⟩ := Int.eq_ofNat_of_zero_le hx0
      obtain ⟨y, rfl⟩ := Int.eq_ofNat_of_zero_le hc0
      have hf := Hf.out
      simp only [Int.toNat_natCast] at hf ⊢
      have h2 : val L + y * pw k = val a * m := by
        apply Int.ofNat_inj.1
        simpa using h
      rcases Nat.eq_zero_or_pos y with h0 | h0
      · subst h0; omega
      · have := Nat.mul_le_mul_right (pw k) h0
        omega
theorem times_n {w : World} {va : Value} {x lo hi : Nat} {F sz : Int} (ha : IsN w lo hi va x) (hi1 : hi ≤ w.heap.size) (n : Nat) (hsz : sz = (n : Int)) (hxn : (lim x).length ≤ n) (hn : n ≤ 8589934592) (hF0 : 0 ≤ F) (hF1 : F ≤ 999999999) (hfit : x * F.toNat < pw n) :
    Calls Tryz.prog 247 #[va, .int .u64 F, .int .i64 sz] w fun e w' => (∃ g L, e = .returned (.slice (some ⟨g, 0, none⟩) n n) ∧ w.heap.size ≤ g ∧ Row w' g 160 (cel .u32 L) ∧ L.length = n ∧ Lo L ∧ val L = x * F.toNat) ∧ Below w.heap.size w w' := by
  subst hsz
  obtain ⟨A, c, rfl, _, _, hA⟩ := ha
  have h := times_list A c (lim x) F n w _ _ hi1 (zat x) hxn hn hF0 hF1 (by rw [zas]; exact hfit) hA
  rw [zas] at h
  exact h
end Go.Proofs.YtijjjbgnpfjpmaaGreatDoor
namespace Go.Proofs.YtijjjbgnpfjpmaaGreatDoor
theorem zbd {a b c : Int} (h : a ≤ b) (hc : 0 ≤ c) : a * c ≤ b * c := Int.mul_le_mul_of_nonneg_right h hc
theorem est_init {U V top v1 v2 u2 U' V' Q g : Int} (hQ : 0 < Q) (hV' : 0 ≤ V') (hU' : U' < Q) (hv2 : 0 ≤ v2) (hu2 : u2 ≤ 999999999) (hg0 : 0 ≤ g) (hg : top < (g + 1) * v1)
    (hU : U = (top * 1000000000 + u2) * Q + U') (hV : V = (v1 * 1000000000 + v2) * Q + V') : U < (g + 1) * V := by
  have h1 : U < (top * 1000000000 + u2 + 1) * Q := by rw [hU, Int.add_mul (top * 1000000000 + u2) 1 Q]; omega
  have h2 : top * 1000000000 + u2 + 1 ≤ ((g + 1) * v1) * 1000000000 := og
  have h3 := zbd h2 (Int.le_of_lt hQ)
  have h4 : (g + 1) * V = (g + 1) * v1 * 1000000000 * Q + (g + 1) * (v2 * Q + V') := by rw [hV]; grind
  have h5 : 0 ≤ (g + 1) * (v2 * Q + V') := Int.mul_nonneg og (Int.add_nonneg (Int.mul_nonneg hv2 (Int.le_of_lt hQ)) hV')
  omega
theorem est_base {U V g : Int} (hV : 0 ≤ V) (h : U < V * 1000000000) (hg : 1000000000 ≤ g) : U < g * V := by
  have := zbd hg hV
  have e : 1000000000 * V = V * 1000000000 := Int.mul_comm _ _
  omega
theorem est_second {U V top v1 v2 u2 U' V' Q g r : Int} (hQ : 0 < Q) (hV' : 0 ≤ V') (hU' : U' < Q) (hg0 : 0 ≤ g) (ht : g * v1 + r = top) (h : r * 1000000000 + u2 < g * v2)
    (hU : U = (top * 1000000000 + u2) * Q + U') (hV : V = (v1 * 1000000000 + v2) * Q + V') : U < g * V := by
  have h1 : U < (top * 1000000000 + u2 + 1) * Q := by rw [hU, Int.add_mul (top * 1000000000 + u2) 1 Q]; omega
  have h2 : top * 1000000000 + u2 + 1 ≤ g * v1 * 1000000000 + g * v2 := og
  have h3 := zbd h2 (Int.le_of_lt hQ)
  have h4 : g * V = (g * v1 * 1000000000 + g * v2) * Q + g * V' := by rw [hV]; grind
  have h5 : 0 ≤ g * V' := Int.mul_nonneg hg0 hV'
  omega
theorem est_rest {U V top v1 v2 u2 U' V' Q g r : Int} (hQ : 0 < Q) (hV' : V' < Q) (hU' : 0 ≤ U') (hv2 : v2 ≤ 999999999) (hu2 : 0 ≤ u2) (hv1 : 1 ≤ v1) (ht : g * v1 + r = top) (hr : 1000000000 ≤ r) (hlt : U < V * 1000000000)
    (hU : U = (top * 1000000000 + u2) * Q + U') (hV : V = (v1 * 1000000000 + v2) * Q + V') : g ≤ 999999999 := by
  have h1 : V < (v1 * 1000000000 + 1000000000) * Q := by
    have h := zbd (show v1 * 1000000000 + v2 + 1 ≤ v1 * 1000000000 + 1000000000 by omega) (Int.le_of_lt hQ)
    rw [Int.add_mul (v1 * 1000000000 + v2) 1 Q] at h
    omega
  have h2 : top * 1000000000 * Q ≤ U := by
    rw [hU, Int.add_mul]
    have := Int.mul_nonneg hu2 (Int.le_of_lt hQ)
    omega
  have h3 : top < v1 * 1000000000 + 1000000000 := by
    rcases Int.lt_or_le top (v1 * 1000000000 + 1000000000) with h | h
    · exact h
    · have h4 := zbd (zbd h (by omega : (0 : Int) ≤ 1000000000)) (Int.le_of_lt hQ)
      have e : (v1 * 1000000000 + 1000000000) * 1000000000 * Q = (v1 * 1000000000 + 1000000000) * Q * 1000000000 := by grind
      omega
  rcases Int.lt_or_le g 1000000000 with h | h
  · omega
  · have h5 := zbd h (by omega : 0 ≤ v1)
    omega
theorem est_exit {U V top v1 v2 u2 U' V' Q g r : Int} (hQ : 0 < Q) (hV' : V' < Q) (hV0 : 0 ≤ V') (hU' : 0 ≤ U') (hv2 : 0 ≤ v2) (hv2' : v2 ≤ 999999999) (hu2 : 0 ≤ u2) (hv1 : 1 ≤ v1) (hg0 : 0 ≤ g) (hg : g ≤ 999999999) (ht : g * v1 + r = top)
    (h : 1000000000 ≤ r ∨ g * v2 ≤ r * 1000000000 + u2) (hU : U = (top * 1000000000 + u2) * Q + U') (hV : V = (v1 * 1000000000 + v2) * Q + V') : g * V ≤ U + V := by
  have h1 : g * v1 * 1000000000 + g * v2 ≤ top * 1000000000 + u2 := by
    rcases h with h | h
    · have := (zbc hg0 hg hv2 hv2').2
      omega
    · omega
  have h2 := zbd h1 (Int.le_of_lt hQ)
  have h4 : g * V = (g * v1 * 1000000000 + g * v2) * Q + g * V' := by rw [hV]; grind
  have h5 : g * V' ≤ 1000000000 * Q := by
    have a1 := zbd hg hV0
    have a2 := Int.mul_le_mul_of_nonneg_left (Int.le_of_lt hV') (by omega : (0 : Int) ≤ 999999999)
    omega
  have h6 : 1000000000 * Q ≤ V := by
    rw [hV]
    have a1 := zbd (show 1000000000 ≤ v1 * 1000000000 + v2 by omega) (Int.le_of_lt hQ)
    omega
  omega
theorem dig_step {M M' v : List Nat} {i : Nat} {x y g c c' r : Int} (hk : i < M'.length) (hx : x = (M.getD i 0 : Nat)) (hy : y = (v.getD i 0 : Nat)) (hr : r = x - (g * y + c) + c' * 1000000000) (hr0 : 0 ≤ r)
    (h : (val (M'.take i) : Int) = val (M.take i) - g * val (v.take i) + c * pw i) :
    (val ((M'.set i r.toNat).take (i + 1)) : Int) = val (M.take (i + 1)) - g * val (v.take (i + 1)) + c' * pw (i + 1) := by
  rw [zch hk, val_take_succ' M, val_take_succ' v, zax]
  have e : ((r.toNat : Nat) : Int) = r := Int.toNat_of_nonneg hr0
  simp only [Int.natCast_add, Int.natCast_mul, e, ← hy, ← hx]
  rw [h]
  subst hr
  generalize (val (M.take i) : Int) = V at *
  generalize (val (v.take i) : Int) = W at *
  generalize (pw i : Int) = P at *
  grind
theorem zey {M M' v : List Nat} {i : Nat} {x y c c' r : Int} (hk : i < M'.length) (hx : x = (M.getD i 0 : Nat)) (hy : y = (v.getD i 0 : Nat)) (hr : r = x + y + c - c' * 1000000000) (hr0 : 0 ≤ r)
    (h : (val (M'.take i) : Int) + c * pw i = val (M.take i) + val (v.take i)) :
    (val ((M'.set i r.toNat).take (i + 1)) : Int) + c' * pw (i + 1) = val (M.take (i + 1)) + val (v.take (i + 1)) := by
  rw [zch hk, val_take_succ' M, val_take_succ' v, zax]
  have e : ((r.toNat : Nat) : Int) = r := Int.toNat_of_nonneg hr0
  simp only [Int.natCast_add, Int.natCast_mul, e, ← hy, ← hx]
  subst hr
  generalize (val (M.take i) : Int) = V at *
  generalize (val (v.take i) : Int) = W at *
  generalize (pw i : Int) = P at *
  grind
theorem zfr {U V g R : Nat} (h : U = g * V + R) (hR : R < V) : U / V = g ∧ U % V = R := by
  have hV : 0 < V := og
  subst h
  constructor
  · rw [Nat.mul_comm, Nat.mul_add_div hV, Nat.div_eq_of_lt hR, Nat.add_zero]
  · rw [Nat.mul_comm, Nat.mul_add_mod, Nat.mod_eq_of_lt hR]
theorem dig_exact {U V : Nat} {m0 m' P u c g : Int} (hU : (U : Int) = m0 + P * u) (hm : m' = m0 - g * V + c * P) (hm0 : 0 ≤ m') (hmP : m' < P) (huc : c ≤ u) (hVP : (V : Int) ≤ P) (hg0 : 0 ≤ g) (hg : (U : Int) < (g + 1) * V) :
    U / V = g.toNat ∧ ((U % V : Nat) : Int) = m' := by
  have h1 : (U : Int) - g * V = m' + (u - c) * P := by rw [hU, hm]; grind
  have h2 : (u - c) * P < P := by
    rw [Int.add_mul, Int.one_mul] at hg
    omega
  have h3 : u = c := by
    rcases Int.lt_or_le u (c + 1) with h | h
    · omega
    · have h4 := zbd (show 1 ≤ u - c by omega) (show 0 ≤ P by omega)
      omega
  rw [h3, Int.sub_self, Int.zero_mul, Int.add_zero] at h1
  have h5 : m' < V := by rw [Int.add_mul, Int.one_mul] at hg; omega
  have e1 : U = g.toNat * V + m'.toNat := by
    apply Int.ofNat_inj.1
    simp only [Int.natCast_add, Int.natCast_mul]
    rw [Int.toNat_of_nonneg hg0, Int.toNat_of_nonneg hm0]
    omega
  have h6 := zfr e1 og
  refine ⟨h6.1, ?_⟩
  rw [h6.2]
  exact Int.toNat_of_nonneg hm0
theorem dig_pos {U V : Nat} {m0 m' P u c g : Int} (hU : (U : Int) = m0 + P * u) (hm : m' = m0 - g * V + c * P) (hmP : m' < P) (huc : u < c) (hP : 0 < P) (hg0 : 0 ≤ g) : 1 ≤ g := by
  have h1 : (U : Int) - g * V = m' + (u - c) * P := by rw [hU, hm]; grind
  have h3 : (u - c) * P ≤ -P := by
    have := zbd (show u - c ≤ -1 by omega) (Int.le_of_lt hP)
    omega
  rcases Int.lt_or_le g 1 with h | h
  · have : g = 0 := og
    subst this
    rw [Int.zero_mul] at h1
    omega
  · exact h
theorem dig_back {U V : Nat} {m0 m' m2 P u c g o : Int} (hU : (U : Int) = m0 + P * u) (hm : m' = m0 - g * V + c * P) (hmP : m' < P) (huc : u < c) (hVP : (V : Int) ≤ P) (hg0 : 0 ≤ g) (hg : g * V ≤ U + V)
    (h2 : m2 + o * P = m' + V) (hm20 : 0 ≤ m2) (hm2P : m2 < P) :
    1 ≤ g ∧ U / V = (g - 1).toNat ∧ ((U % V : Nat) : Int) = m2 := by
  have h1 : (U : Int) - g * V = m' + (u - c) * P := by rw [hU, hm]; grind
  have hP : 0 < P := og
  have h3 : (u - c) * P ≤ -P := by
    have := zbd (show u - c ≤ -1 by omega) (Int.le_of_lt hP)
    omega
  have hg1 : 1 ≤ g := by
    rcases Int.lt_or_le g 1 with h | h
    · have : g = 0 := og
      subst this
      rw [Int.zero_mul] at h1
      omega
    · exact h
  have h4 : (U : Int) - (g - 1) * V = m2 + (o + u - c) * P := by
    have e1 : (g - 1) * (V : Int) = g * V - V := by rw [Int.sub_mul, Int.one_mul]
    have e2 : (o + u - c) * P = o * P + (u - c) * P := by rw [← Int.add_mul]; congr 1; omega
    rw [e1, e2]; omega
  have h5 : 0 ≤ (U : Int) - (g - 1) * V := by rw [Int.sub_mul, Int.one_mul]; omega
  have h6 : (U : Int) - (g - 1) * V < V := by rw [Int.sub_mul, Int.one_mul]; omega
  have h7 : o + u - c = 0 := by
    rcases Int.lt_or_le (o + u - c) 0 with h | h
    · have := zbd (show o + u - c ≤ -1 by omega) (Int.le_of_lt hP)
      omega
    · rcases Int.lt_or_le (o + u - c) 1 with h' | h'
      · omega
      · have := zbd h' (Int.le_of_lt hP)
        omega
  rw [h7, Int.zero_mul, Int.add_zero] at h4
  have e1 : U = (g - 1).toNat * V + m2.toNat := by
    apply Int.ofNat_inj.1
    simp only [Int.natCast_add, Int.natCast_mul]
    rw [Int.toNat_of_nonneg (by omega : 0 ≤ g - 1), Int.toNat_of_nonneg hm20]
    omega
  have h8 := zfr e1 og
  refine ⟨hg1, h8.1, ?_⟩
  rw [h8.2]
  exact Int.toNat_of_nonneg hm20
theorem val_top {l : List Nat} {n : Nat} (h : l.length = n + 1) : val l = val (l.take n) + pw n * l.getD n 0 := by
  rw [← zdu og, List.take_of_length_le og]
theorem val_two {l : List Nat} {n : Nat} (h : l.length = n + 2) : val l = (l.getD (n + 1) 0 * 1000000000 + l.getD n 0) * pw n + val (l.take n) := by
  rw [← zai (Nat.le_of_eq h), val_take_succ' l (n + 1), val_take_succ' l n, zax]
  grind
theorem val_three {l : List Nat} {n : Nat} (h : l.length = n + 3) : val l = ((l.getD (n + 2) 0 * 1000000000 + l.getD (n + 1) 0) * 1000000000 + l.getD n 0) * pw n + val (l.take n) := by
  rw [← zai (Nat.le_of_eq h), val_take_succ' l (n + 2), val_take_succ' l (n + 1), val_take_succ' l n]
  simp only [zax]
  grind
theorem zdt {l : List Nat} {n : Nat} (h : l.length = n + 1) : val (l.set n 0) = val (l.take n) := by
  rw [val_top (n := n) (by simpa using h), List.take_set_of_le (Nat.le_refl n)]
  rw [List.getD_eq_getElem?_getD, List.getElem?_set_self og]
  simp
theorem set_mid {P M S : List Nat} {i x : Nat} (h : i < M.length) : (P ++ M ++ S).set (P.length + i) x = P ++ M.set i x ++ S := by
  rw [List.append_assoc, List.append_assoc, List.set_append_right _ _ og, Nat.add_sub_cancel_left, List.set_append_left _ _ h]
theorem getD_mid {P M S : List Nat} {i : Nat} (h : i < M.length) : (P ++ M ++ S).getD (P.length + i) 0 = M.getD i 0 := by
  rw [List.append_assoc, List.getD_eq_getElem?_getD, List.getElem?_append_right og, Nat.add_sub_cancel_left, List.getElem?_append_left h, List.getD_eq_getElem?_getD]
theorem factor_facts {b : List Nat} {m : Nat} {b1 : Int} (hb : Lo b) (hl : b.length = m + 2) (h1 : b1 = (b.getD (m + 1) 0 : Nat)) (h0 : 1 ≤ b1) (h9 : b1 ≤ 999999999) :
    1 ≤ 1000000000 / (b1 + 1) ∧ 1000000000 / (b1 + 1) ≤ 999999999 ∧ val b * (1000000000 / (b1 + 1)).toNat < pw (m + 2) := by
  have e1 : 1 ≤ 1000000000 / (b1 + 1) := (Int.le_ediv_iff_mul_le og).2 og
  have e2 : 1000000000 / (b1 + 1) ≤ 999999999 := by
    have := Int.ediv_lt_of_lt_mul (a := 1000000000) (b := 1000000000) (c := b1 + 1) og og
    omega
  refine ⟨e1, e2, ?_⟩
  have e3 : (b1 + 1) * (1000000000 / (b1 + 1)) ≤ 1000000000 := Int.mul_ediv_self_le og
  generalize hF : 1000000000 / (b1 + 1) = F at *
  obtain ⟨f, rfl⟩ := Int.eq_ofNat_of_zero_le (show 0 ≤ F by omega)
  simp only [Int.toNat_natCast]
  subst h1
  generalize hbt : b.getD (m + 1) 0 = t at *
  have h3 : (t + 1) * f ≤ 1000000000 := by
    have : (((t + 1) * f : Nat) : Int) ≤ 1000000000 := by simpa using e3
    omega
  have h4 : val b < (t + 1) * pw (m + 1) := by
    rw [val_top hl, hbt]
    have h := zbz (zbk hb (m + 1))
    rw [List.length_take, Nat.min_eq_left og] at h
    rw [Nat.add_mul, Nat.one_mul, Nat.mul_comm (pw (m + 1)) t]
    omega
  have h5 : val b * f < (t + 1) * pw (m + 1) * f := Nat.mul_lt_mul_of_pos_right h4 og
  have h6 : (t + 1) * pw (m + 1) * f = (t + 1) * f * pw (m + 1) := by rw [Nat.mul_right_comm]
  have h7 := Nat.mul_le_mul_right (pw (m + 1)) h3
  rw [zax (m + 1)]
  omega
theorem top_pos {v : List Nat} {m : Nat} (hv : Lo v) (hl : v.length = m + 2) (h : pw (m + 1) ≤ val v) : 1 ≤ v.getD (m + 1) 0 := by
  rcases Nat.eq_zero_or_pos (v.getD (m + 1) 0) with h0 | h0
  · rw [val_top hl, h0, Nat.mul_zero, Nat.add_zero] at h
    have h2 := zbz (zbk hv (m + 1))
    rw [List.length_take, Nat.min_eq_left og] at h2
    omega
  · exact h0
theorem div_split {L : List Nat} {j n V : Nat} (hlo : Lo L) (hj : j + n + 1 ≤ L.length) (hV : V ≤ pw n) (h : val (L.drop (j + 1)) < V) :
    val ((L.drop j).take (n + 1)) < V * 1000000000 ∧ val (L.drop (j + n + 1)) = 0 ∧ val L = val (L.take j) + pw j * val ((L.drop j).take (n + 1)) := by
  have e1 : val (L.drop (j + 1)) = val ((L.drop (j + 1)).take n) + pw n * val (L.drop (j + n + 1)) := by
    have := zbm (L.drop (j + 1)) n (by simp; omega)
    rw [List.drop_drop, show j + 1 + n = j + n + 1 by omega] at this
    exact this
  have e0 : val (L.drop (j + n + 1)) = 0 := by
    rcases Nat.eq_zero_or_pos (val (L.drop (j + n + 1))) with h0 | h0
    · exact h0
    · have := Nat.mul_le_mul_left (pw n) h0
      omega
  have e2 : val (L.drop j) = val ((L.drop j).take (n + 1)) := by
    have := zbm (L.drop j) (n + 1) (by simp; omega)
    rw [List.drop_drop, show j + (n + 1) = j + n + 1 by omega, e0, Nat.mul_zero, Nat.add_zero] at this
    exact this
  refine ⟨?_, e0, ?_⟩
  · rw [← e2, zda og]
    have := zcj hlo j
    omega
  · rw [← e2]
    exact zbm L j og
theorem div_ring (P p r V v q : Nat) : P + p * r + V * (v + p * q) = P + p * (r + V * q) + V * v := by grind
theorem div_step {L M' Lq : List Nat} {j n V X : Nat} (hlo : Lo L) (hj : j + n + 1 ≤ L.length) (hV : V ≤ pw n) (hV0 : 0 < V) (h : val (L.drop (j + 1)) < V) (hM : val M' = val ((L.drop j).take (n + 1)) % V) (hMl : M'.length = n + 1)
    (hq : j < Lq.length) (hq0 : Lq.getD j 0 = 0) (hX : val L + V * val Lq = X) :
    val ((L.take j ++ M' ++ L.drop (j + n + 1)).drop j) < V ∧ val (L.take j ++ M' ++ L.drop (j + n + 1)) + V * val (Lq.set j (val ((L.drop j).take (n + 1)) / V)) = X := by
  have hs := div_split hlo hj hV h
  have hl : (L.take j).length = j := by rw [List.length_take, Nat.min_eq_left og]
  have hmod := Nat.mod_lt (val ((L.drop j).take (n + 1))) hV0
  constructor
  · rw [List.append_assoc, List.drop_append_of_le_length og, List.drop_of_length_le og, List.nil_append, zbf, hs.2.1, hM]
    omega
  · rw [List.append_assoc, zbf, zbf, hs.2.1, hl, Nat.mul_zero, Nat.add_zero, hM]
    have e := val_set (x := val ((L.drop j).take (n + 1)) / V) hq
    rw [hq0, Nat.mul_zero, Nat.add_zero] at e
    rw [e, ← hX, hs.2.2]
    have d := Nat.mod_add_div (val ((L.drop j).take (n + 1))) V
    rw [div_ring, d]
theorem drop_le (L : List Nat) (i : Nat) (h : i ≤ L.length) : val (L.drop i) * pw i ≤ val L := by
  rw [zbm L i h, Nat.mul_comm (pw i)]
  omega
theorem div_start {L : List Nat} {m k x y F : Nat} (hl : L.length = m + 2 + k + 1) (hL : val L = x * F) (hx : x < pw (m + 2 + k)) (hy : pw (m + 1) ≤ y) (hF : 0 < F) : val (L.drop (k + 1)) < y * F := by
  have h1 := drop_le L (k + 1) og
  rw [hL] at h1
  have h2 : x * F < pw (m + 1) * F * pw (k + 1) := by
    have := Nat.mul_lt_mul_of_pos_right hx hF
    rw [show m + 2 + k = (m + 1) + (k + 1) by omega, pw_add] at this
    rw [Nat.mul_right_comm]
    exact this
  have h3 := Nat.lt_of_mul_lt_mul_right (Nat.lt_of_le_of_lt h1 h2)
  exact Nat.lt_of_lt_of_le h3 (Nat.mul_le_mul_right F hy)
theorem div_end {a b q u f : Nat} (hf : 0 < f) (hu : u < b * f) (h : u + b * f * q = a * f) : q = a / b ∧ u / f = a % b := by
  have h1 := zfr (U := a * f) (V := b * f) (g := q) (R := u) (by rw [← h, Nat.mul_comm q]; omega) hu
  rw [Nat.mul_div_mul_right _ _ hf] at h1
  rw [Nat.mul_mod_mul_right] at h1
  exact ⟨h1.1.symm, by rw [← h1.2, Nat.mul_div_cancel _ hf]⟩
end Go.Proofs.YtijjjbgnpfjpmaaGreatDoor
namespace Go.Proofs.YtijjjbgnpfjpmaaGreatDoor
open Go.RowKit
set_option linter.unusedVariables false
theorem Row.mid {w : World} {g : Nat} {t : TypeId} {P M S : List Nat} (h : Row w g t (cel .u32 (P ++ M ++ S))) (hl : Lo M) {i : Nat} (hi : i < M.length) :
    ∃ x : Int, Hid (x = (M.getD i 0 : Nat)) ∧ 0 ≤ x ∧ x ≤ 999999999 ∧ w.cell? ⟨g, P.length + i, none⟩ = some (.int .u32 x) := by
  refine ⟨_, rfl, by omega, by have := zcj hl i; omega, ?_⟩
  rw [h.cell, zdf (by simp only [List.length_append]; omega), getD_mid hi]
theorem Row.setMid {w : World} {g : Nat} {t : TypeId} {P M S : List Nat} (h : Row w g t (cel .u32 (P ++ M ++ S))) {i : Nat} (hi : i < M.length) (n : Nat) (x : Int) (hx : x = (n : Int)) :
    Row (w.setCell ⟨g, P.length + i, none⟩ (.int .u32 x)) g t (cel .u32 (P ++ M.set i n ++ S)) := by
  rw [← set_mid hi]
  exact h.setNum _ n x hx
set_option maxRecDepth 100000 in
set_option maxHeartbeats 1000000 in
theorem digit_list (G : Nat) (P M S : List Nat) (B : Option Addr) (c d m : Nat) (v : List Nat) (w : World) (lo hi : Nat) (hv : Lo v) (hM : Lo M) (hvl : v.length = m + 2) (hMl : M.length = m + 3) (hm : m ≤ 8589934592)
    (hP : P.length ≤ 8589934592) (hc : m + 3 ≤ c) (hv1 : 1 ≤ v.getD (m + 1) 0) (hlt : val M < val v * 1000000000) (hr : Row w G 160 (cel .u32 (P ++ M ++ S))) (hB : SV w lo hi B (cel .u32 v)) (hG : G < lo ∨ hi ≤ G) :
    Calls Tryz.prog 248 #[.slice (some ⟨G, P.length, none⟩) (m + 3) c, .slice B (m + 2) d] w fun e w' => (∃ M', e = .returned (.int .u32 ((val M / val v : Nat) : Int)) ∧ Row w' G 160 (cel .u32 (P ++ M' ++ S)) ∧ M'.length = m + 3 ∧ Lo M' ∧ val M' = val M % val v) ∧ Only G w w' := by
  have Hv := Lib.hid hv
  have HM := Lib.hid hM
  have Hvl := Lib.hid hvl
  have HMl := Lib.hid hMl
  have Hlt := Lib.hid hlt
  obtain ⟨bb, ob, rfl, _, _, hcb⟩ := hB (zap (j := m + 1) og)
  obtain ⟨v1, hv1e, hv10, hv11, hv1c⟩ := zaw (j := m + 1) Hv.out hcb og
  obtain ⟨v2, hv2e, hv20, hv21, hv2c⟩ := zaw (j := m) Hv.out hcb og
  obtain ⟨u0, hu0e, hu00, hu01, hu0c⟩ := hr.mid HM.out (i := m + 2) og
  obtain ⟨u1, hu1e, hu10, hu11, hu1c⟩ := hr.mid HM.out (i := m + 1) og
  obtain ⟨u2, hu2e, hu20, hu21, hu2c⟩ := hr.mid HM.out (i := m) og
  have hv12 : 1 ≤ v1 := oh hv1e
  have hU : (val M : Int) = ((u0 * 1000000000 + u1) * 1000000000 + u2) * pw m + val (M.take m) := by
    rw [val_three HMl.out, hu0e.out, hu1e.out, hu2e.out]
    simp only [Int.natCast_add, Int.natCast_mul]
    rfl
  have hV : (val v : Int) = (v1 * 1000000000 + v2) * pw m + val (v.take m) := by
    rw [val_two Hvl.out, hv1e.out, hv2e.out]
    simp only [Int.natCast_add, Int.natCast_mul]
    rfl
  have hQ : (0 : Int) < pw m := by have := zcy m; omega
  have hU' : (val (M.take m) : Int) < pw m := by have h := zbz (zbk HM.out m); rw [List.length_take, Nat.min_eq_left (oh HMl)] at h; omega
  have hV' : (val (v.take m) : Int) < pw m := by have h := zbz (zbk Hv.out m); rw [List.length_take, Nat.min_eq_left (oh Hvl)] at h; omega
  have hltI : (val M : Int) < val v * 1000000000 := oh Hlt
  have Hest : Hid (∀ g r : Int, 0 ≤ g → g * v1 + r = u0 * 1000000000 + u1 → g * v2 > r * 1000000000 + u2 → (val M : Int) < g * val v) :=
    fun g r h0 h1 h2 => est_second hQ og hU' h0 h1 og hU hV
  have Hbase : Hid (∀ g : Int, 1000000000 ≤ g → (val M : Int) < g * val v) := fun g h => est_base og hltI h
  have Hrest : Hid (∀ g r : Int, g * v1 + r = u0 * 1000000000 + u1 → 1000000000 ≤ r → g ≤ 999999999) := fun g r h1 h2 => est_rest hQ hV' og hv21 hu20 hv12 h1 h2 hltI hU hV
  have Hexit : Hid (∀ g r : Int, 0 ≤ g → g ≤ 999999999 → g * v1 + r = u0 * 1000000000 + u1 → (1000000000 ≤ r ∨ g * v2 ≤ r * 1000000000 + u2) → g * val v ≤ val M + val v) :=
    fun g r h0 h1 h2 h3 => est_exit hQ hV' og og hv20 hv21 hu20 hv12 h0 h1 h2 h3 hU hV
  have Hinit : Hid ((val M : Int) < ((u0 * 1000000000 + u1) / v1 + 1) * val v) :=
    est_init hQ og hU' hv20 hu21 (Int.ediv_nonneg og og) (Int.lt_ediv_add_one_mul_self _ og) hU hV
  have Hdm : Hid ((u0 * 1000000000 + u1) / v1 * v1 + (u0 * 1000000000 + u1) % v1 = u0 * 1000000000 + u1 ∧ 0 ≤ (u0 * 1000000000 + u1) / v1 ∧ (u0 * 1000000000 + u1) / v1 ≤ 999999999999999999 ∧ 0 ≤ (u0 * 1000000000 + u1) % v1 ∧ (u0 * 1000000000 + u1) % v1 < v1) :=
    ⟨Int.ediv_mul_add_emod _ _, Int.ediv_nonneg og og, Int.le_trans (Int.ediv_le_self _ og) og, Int.emod_nonneg _ og, Int.emod_lt_of_pos _ og⟩
  have HU : Hid ((val M : Int) = val (M.take (m + 2)) + pw (m + 2) * u0) := by
    rw [val_top (n := m + 2) (oh HMl), hu0e.out]
    simp [Hid]
  have HVP : Hid ((val v : Int) ≤ pw (m + 2)) := by have h := zbz Hv.out; rw [Hvl.out] at h; unfold Hid; omega
  have HQ : Hid ((0 : Int) < pw (m + 2)) := by have := zcy (m + 2); unfold Hid; omega
  go_enter Tryz.func248, Tryz.ntmps248
  go_wp2
  go_quiet (fail)
  go_wp2
  go_quiet (fail)
  go_wp2
  go_loopw [7, 8] (fun s7 s8 wr => ∃ g r : Int, s7 = .int .u64 g ∧ s8 = .int .u64 r ∧ 0 ≤ g ∧ g ≤ 999999999999999999 ∧ 0 ≤ r ∧ r ≤ 1999999999 ∧ Dr w wr ∧ Hid (g * v1 + r = u0 * 1000000000 + u1 ∧ (val M : Int) < (g + 1) * val v)) (fun s7 _ _ => (intOf s7).toNat)
  case atStart =>
    have := Hdm.out
    exact ⟨_, _, rfl, rfl, this.2.1, this.2.2.1, this.2.2.2.1, by omega, ((Dr.refl w).drewN _).drewN _, this.1, Hinit.out⟩
  case round =>
    obtain ⟨g, r, rfl, rfl, hg0, hg1, hr0, hr1, ⟨nn, rfl⟩, hrel⟩ := hrel
    have hcase : (r < 1000000000 ∧ 1000000000 ≤ g) ∨ (r < 1000000000 ∧ g ≤ 999999999 ∧ r * 1000000000 + u2 < g * v2) ∨ (1000000000 ≤ r ∧ g ≤ 999999999) ∨ (r < 1000000000 ∧ g ≤ 999999999 ∧ g * v2 ≤ r * 1000000000 + u2) := by
      rcases Int.lt_or_le r 1000000000 with h1 | h1
      · rcases Int.lt_or_le g 1000000000 with h2 | h2
        · rcases Int.lt_or_le (r * 1000000000 + u2) (g * v2) with h3 | h3
          · exact .inr (.inl ⟨h1, by omega, h3⟩)
          · exact .inr (.inr (.inr ⟨h1, by omega, h3⟩))
        · exact .inl ⟨h1, h2⟩
      · exact .inr (.inr (.inl ⟨h1, Hrest.out g r hrel.out.1 h1⟩))
    rcases hcase with ⟨c1, c2⟩ | ⟨c1, c2, c3⟩ | hex
    · go_wp2
      go_quiet (fail)
      go_wp2
      go_roundw
      case rel =>
        exact ⟨g - 1, r + v1, by go_num, by go_num, by omega, by omega, by omega, by omega, ⟨_, rfl⟩, by have := hrel.out.1; rw [Int.sub_mul]; omega, by have := Hbase.out g c2; rw [Int.sub_add_cancel]; exact this⟩
      case measure => simp [intOf]; omega
    · have hgv := zbc hg0 c2 hv20 hv21
      have hgv0 := hgv.1
      have hgv1 := hgv.2
      have hg1' : 1 ≤ g := by
        rcases Int.lt_or_le g 1 with h | h
        · have : g = 0 := og
          subst this
          rw [Int.zero_mul] at c3
          omega
        · exact h
      have c4 : decide ((1000000000 : Int) ≤ g) = false := by simp; omega
      go_wp2
      go_quiet (fail)
      go_wp2
      go_roundw
      case rel =>
        exact ⟨g - 1, r + v1, by go_num, by go_num, by omega, by omega, by omega, by omega, ⟨_, rfl⟩, by have := hrel.out.1; rw [Int.sub_mul]; omega, by have := Hest.out g r hg0 hrel.out.1 c3; rw [Int.sub_add_cancel]; exact this⟩
      case measure => simp [intOf]; omega
    · have hgb : g ≤ 999999999 := og
      have Hg : Hid (g * val v ≤ val M + val v ∧ (val M : Int) < (g + 1) * val v) := ⟨Hexit.out g r hg0 hgb hrel.out.1 og, hrel.out.2⟩
      have hgv := zbc hg0 hgb hv20 hv21
      have hgv0 := hgv.1
      have hgv1 := hgv.2
      rcases hex with ⟨c1, c2⟩ | ⟨c1, c2, c3⟩
      · have c4 : decide (r < (1000000000 : Int)) = false := by simp; omega
        go_wp2
        go_quiet (fail)
        go_wp2
        have hO : Only G w (w.drewN (nn + nq)) := (Only.refl G w).drewN _
        go_loopw [9, 87] (fun cr i wr => ∃ (i' : Nat) (M' : List Nat) (cy : Int), i' ≤ m + 2 ∧ i = .int .i64 (i' : Int) ∧ cr = .int .u64 cy ∧ 0 ≤ cy ∧ cy ≤ 999999999 ∧ Row wr G 160 (cel .u32 (P ++ M' ++ S)) ∧ Only G w wr ∧
            Hid (M'.length = m + 3 ∧ Lo M' ∧ (∀ j, i' ≤ j → M'.getD j 0 = M.getD j 0) ∧ (val (M'.take i') : Int) = val (M.take i') - g * val (v.take i') + cy * pw i')) (fun _ i _ => m + 2 - (intOf i).toNat)
        case atStart => exact ⟨0, M, 0, Nat.zero_le _, rfl, rfl, by omega, by omega, hr, hO, HMl.out, HM.out, fun _ _ => rfl, by simp [val]⟩
        case round =>
          obtain ⟨i, M', cy, hi, rfl, rfl, hcy0, hcy1, hr', hOw, hrel⟩ := hrel
          have hB' := hB.only hOw hG
          rcases Nat.lt_or_ge i (m + 2) with hlt | hge
          · obtain ⟨y, hy, hy0, hy1, hyc⟩ := zaw (j := i) Hv.out hB'.at_ (oh Hvl)
            obtain ⟨x, hx, hx0, hx1, hxc⟩ := hr'.mid hrel.out.2.1 (i := i) (by have := hrel.out.1; omega)
            have hxf := hr'.frozen (P.length + i)
            have hgy := zbc hg0 hgb hy0 hy1
            have hgy0 := hgy.1
            have hgy1 := hgy.2
            rcases Int.lt_or_le (x - (g * y + cy) % 1000000000) 0 with hneg | hpos
            · go_wp2
              go_roundw
              case rel =>
                exact ⟨i + 1, M'.set i (x - (g * y + cy) % 1000000000 + 1000000000).toNat, (g * y + cy) / 1000000000 + 1, by omega, by go_num, rfl, by omega, by omega, hr'.setMid (by have := hrel.out.1; omega) _ _ og, hOw.setCell _ _,
                  by rw [List.length_set]; exact hrel.out.1, zbb hrel.out.2.1 og, fun j hj => by rw [getD_set_ne og]; exact hrel.out.2.2.1 j og,
                  dig_step (x := x) (y := y) (by have := hrel.out.1; omega) (by rw [← hrel.out.2.2.1 i (Nat.le_refl _)]; exact hx.out) hy.out og og hrel.out.2.2.2⟩
              case measure => simp [intOf]; omega
            · go_wp2
              go_roundw
              case rel =>
                exact ⟨i + 1, M'.set i (x - (g * y + cy) % 1000000000).toNat, (g * y + cy) / 1000000000, by omega, by go_num, rfl, by omega, by omega, hr'.setMid (by have := hrel.out.1; omega) _ _ og, hOw.setCell _ _,
                  by rw [List.length_set]; exact hrel.out.1, zbb hrel.out.2.1 og, fun j hj => by rw [getD_set_ne og]; exact hrel.out.2.2.1 j og,
                  dig_step (x := x) (y := y) (by have := hrel.out.1; omega) (by rw [← hrel.out.2.2.1 i (Nat.le_refl _)]; exact hx.out) hy.out og og hrel.out.2.2.2⟩
              case measure => simp [intOf]; omega
          · obtain rfl : i = m + 2 := og
            obtain ⟨x, hx, hx0, hx1, hxc⟩ := hr'.mid hrel.out.2.1 (i := m + 2) (by have := hrel.out.1; omega)
            have hxf := hr'.frozen (P.length + (m + 2))
            have Hxu : Hid (x = u0) := by unfold Hid; rw [hx.out, hrel.out.2.2.1 _ (Nat.le_refl _), ← hu0e.out]
            have Hm := Lib.hid hrel.out.2.2.2
            have HML := Lib.hid hrel.out.1
            have HLo := Lib.hid hrel.out.2.1
            have Hlt' : Hid ((val (M'.take (m + 2)) : Int) < pw (m + 2)) := by
              have h := zbz (zbk HLo.out (m + 2)); rw [List.length_take, Nat.min_eq_left (oh HML)] at h; unfold Hid; omega
            rw [zai (l := v) (Nat.le_of_eq Hvl.out)] at Hm
            rcases Int.lt_or_le x cy with hxc1 | hxc1
            · have hgp : 1 ≤ g := dig_pos HU.out Hm.out Hlt'.out (oh Hxu) HQ.out hg0
              go_wp2
              go_loopw [14, 132] (fun mo i wr => ∃ (i' : Nat) (M2 : List Nat) (o : Int), i' ≤ m + 2 ∧ i = .int .i64 (i' : Int) ∧ mo = .int .u32 o ∧ 0 ≤ o ∧ o ≤ 1 ∧ Row wr G 160 (cel .u32 (P ++ M2 ++ S)) ∧ Only G w wr ∧
                  Hid (M2.length = m + 3 ∧ Lo M2 ∧ (∀ j, i' ≤ j → M2.getD j 0 = M'.getD j 0) ∧ (val (M2.take i') : Int) + o * pw i' = val (M'.take i') + val (v.take i'))) (fun _ i _ => m + 2 - (intOf i).toNat)
              case atStart => exact ⟨0, M', 0, Nat.zero_le _, rfl, rfl, by omega, by omega, hr', hOw, HML.out, HLo.out, fun _ _ => rfl, by simp [val]⟩
              case round =>
                obtain ⟨i, M2, o, hi, rfl, rfl, ho0, ho1, hr2, hO2, hrel⟩ := hrel
                have hB2 := hB.only hO2 hG
                rcases Nat.lt_or_ge i (m + 2) with hlt | hge
                · obtain ⟨y, hy, hy0, hy1, hyc⟩ := zaw (j := i) Hv.out hB2.at_ (oh Hvl)
                  obtain ⟨z, hz, hz0, hz1, hzc⟩ := hr2.mid hrel.out.2.1 (i := i) (by have := hrel.out.1; omega)
                  have hzf := hr2.frozen (P.length + i)
                  rcases Int.lt_or_le (z + y + o) 1000000000 with hneg | hpos
                  · go_wp2
                    go_roundw
                    case rel =>
                      exact ⟨i + 1, M2.set i (z + y + o).toNat, 0, by omega, by go_num, rfl, by omega, by omega, hr2.setMid (by have := hrel.out.1; omega) _ _ og, hO2.setCell _ _,
                        by rw [List.length_set]; exact hrel.out.1, zbb hrel.out.2.1 og, fun j hj => by rw [getD_set_ne og]; exact hrel.out.2.2.1 j og,
                        zey (x := z) (y := y) (c := o) (by have := hrel.out.1; omega) (by rw [← hrel.out.2.2.1 i (Nat.le_refl _)]; exact hz.out) hy.out og og hrel.out.2.2.2⟩
                    case measure => simp [intOf]; omega
                  · go_wp2
                    go_roundw
                    case rel =>
                      exact ⟨i + 1, M2.set i (z + y + o - 1000000000).toNat, 1, by omega, by go_num, rfl, by omega, by omega, hr2.setMid (by have := hrel.out.1; omega) _ _ og, hO2.setCell _ _,
                        by rw [List.length_set]; exact hrel.out.1, zbb hrel.out.2.1 og, fun j hj => by rw [getD_set_ne og]; exact hrel.out.2.2.1 j og,
                        zey (x := z) (y := y) (c := o) (by have := hrel.out.1; omega) (by rw [← hrel.out.2.2.1 i (Nat.le_refl _)]; exact hz.out) hy.out og og hrel.out.2.2.2⟩
                    case measure => simp [intOf]; omega
                · obtain rfl : i = m + 2 := og
                  obtain ⟨z, hz, hz0, hz1, hzc⟩ := hr2.mid hrel.out.2.1 (i := m + 2) (by have := hrel.out.1; omega)
                  have hzf := hr2.frozen (P.length + (m + 2))
                  have h2 := hrel.out.2.2.2
                  rw [zai (l := v) (Nat.le_of_eq Hvl.out)] at h2
                  have hd := dig_back HU.out Hm.out Hlt'.out (oh Hxu) HVP.out hg0 Hg.out.1 h2 og
                    (by have h := zbz (zbk hrel.out.2.1 (m + 2)); rw [List.length_take, Nat.min_eq_left (by have := hrel.out.1; omega)] at h; omega)
                  have Hd := Lib.hid hd
                  go_wp2
                  go_ret
                  refine ⟨⟨M2.set (m + 2) 0, ?_, hr2.setMid (by have := hrel.out.1; omega) _ _ og, by rw [List.length_set]; exact hrel.out.1, zbb hrel.out.2.1 og, ?_⟩, hO2.setCell _ _⟩
                  · rw [Hd.out.2.1, Int.toNat_of_nonneg og]; rfl
                  · rw [zdt hrel.out.1]
                    have := Hd.out.2.2
                    omega
            · have hd := dig_exact HU.out Hm.out og Hlt'.out (oh Hxu) HVP.out hg0 Hg.out.2
              have Hd := Lib.hid hd
              go_wp2
              go_ret
              refine ⟨⟨M'.set (m + 2) 0, ?_, hr'.setMid (oh HML) _ _ og, by rw [List.length_set]; exact HML.out, zbb HLo.out og, ?_⟩, hOw.setCell _ _⟩
              · rw [Hd.out.1, Int.toNat_of_nonneg hg0]; rfl
              · rw [zdt HML.out]
                have := Hd.out.2
                omega
      · have c4 : decide ((1000000000 : Int) ≤ g) = false := by simp; omega
        have c5 : decide (r * 1000000000 + u2 < g * v2) = false := by simp; omega
        go_wp2
        go_quiet (fail)
        go_wp2
        have hO : Only G w (w.drewN (nn + nq)) := (Only.refl G w).drewN _
        go_loopw [9, 87] (fun cr i wr => ∃ (i' : Nat) (M' : List Nat) (cy : Int), i' ≤ m + 2 ∧ i = .int .i64 (i' : Int) ∧ cr = .int .u64 cy ∧ 0 ≤ cy ∧ cy ≤ 999999999 ∧ Row wr G 160 (cel .u32 (P ++ M' ++ S)) ∧ Only G w wr ∧
            Hid (M'.length = m + 3 ∧ Lo M' ∧ (∀ j, i' ≤ j → M'.getD j 0 = M.getD j 0) ∧ (val (M'.take i') : Int) = val (M.take i') - g * val (v.take i') + cy * pw i')) (fun _ i _ => m + 2 - (intOf i).toNat)
        case atStart => exact ⟨0, M, 0, Nat.zero_le _, rfl, rfl, by omega, by omega, hr, hO, HMl.out, HM.out, fun _ _ => rfl, by simp [val]⟩
        case round =>
          obtain ⟨i, M', cy, hi, rfl, rfl, hcy0, hcy1, hr', hOw, hrel⟩ := hrel
          have hB' := hB.only hOw hG
          rcases Nat.lt_or_ge i (m + 2) with hlt | hge
          · obtain ⟨y, hy, hy0, hy1, hyc⟩ := zaw (j := i) Hv.out hB'.at_ (oh Hvl)
            obtain ⟨x, hx, hx0, hx1, hxc⟩ := hr'.mid hrel.out.2.1 (i := i) (by have := hrel.out.1; omega)
            have hxf := hr'.frozen (P.length + i)
            have hgy := zbc hg0 hgb hy0 hy1
            have hgy0 := hgy.1
            have hgy1 := hgy.2
            rcases Int.lt_or_le (x - (g * y + cy) % 1000000000) 0 with hneg | hpos
            · go_wp2
              go_roundw
              case rel =>
                exact ⟨i + 1, M'.set i (x - (g * y + cy) % 1000000000 + 1000000000).toNat, (g * y + cy) / 1000000000 + 1, by omega, by go_num, rfl, by omega, by omega, hr'.setMid (by have := hrel.out.1; omega) _ _ og, hOw.setCell _ _,
                  by rw [List.length_set]; exact hrel.out.1, zbb hrel.out.2.1 og, fun j hj => by rw [getD_set_ne og]; exact hrel.out.2.2.1 j og,
                  dig_step (x := x) (y := y) (by have := hrel.out.1; omega) (by rw [← hrel.out.2.2.1 i (Nat.le_refl _)]; exact hx.out) hy.out og og hrel.out.2.2.2⟩
              case measure => simp [intOf]; omega
            · go_wp2
              go_roundw
              case rel =>
                exact ⟨i + 1, M'.set i (x - (g * y + cy) % 1000000000).toNat, (g * y + cy) / 1000000000, by omega, by go_num, rfl, by omega, by omega, hr'.setMid (by have := hrel.out.1; omega) _ _ og, hOw.setCell _ _,
                  by rw [List.length_set]; exact hrel.out.1, zbb hrel.out.2.1 og, fun j hj => by rw [getD_set_ne og]; exact hrel.out.2.2.1 j og,
                  dig_step (x := x) (y := y) (by have := hrel.out.1; omega) (by rw [← hrel.out.2.2.1 i (Nat.le_refl _)]; exact hx.out) hy.out og og hrel.out.2.2.2⟩
              case measure => simp [intOf]; omega
          · obtain rfl : i = m + 2 := og
            obtain ⟨x, hx, hx0, hx1, hxc⟩ := hr'.mid hrel.out.2.1 (i := m + 2) (by have := hrel.out.1; omega)
            have hxf := hr'.frozen (P.length + (m + 2))
            have Hxu : Hid (x = u0) := by unfold Hid; rw [hx.out, hrel.out.2.2.1 _ (Nat.le_refl _), ← hu0e.out]
            have Hm := Lib.hid hrel.out.2.2.2
            have HML := Lib.hid hrel.out.1
            have HLo := Lib.hid hrel.out.2.1
            have Hlt' : Hid ((val (M'.take (m + 2)) : Int) < pw (m + 2)) := by
              have h := zbz (zbk HLo.out (m + 2)); rw [List.length_take, Nat.min_eq_left (oh HML)] at h; unfold Hid; omega
            rw [zai (l := v) (Nat.le_of_eq Hvl.out)] at Hm
            rcases Int.lt_or_le x cy with hxc1 | hxc1
            · have hgp : 1 ≤ g := dig_pos HU.out Hm.out Hlt'.out (oh Hxu) HQ.out hg0
              go_wp2
              go_loopw [14, 132] (fun mo i wr => ∃ (i' : Nat) (M2 : List Nat) (o : Int), i' ≤ m + 2 ∧ i = .int .i64 (i' : Int) ∧ mo = .int .u32 o ∧ 0 ≤ o ∧ o ≤ 1 ∧ Row wr G 160 (cel .u32 (P ++ M2 ++ S)) ∧ Only G w wr ∧
                  Hid (M2.length = m + 3 ∧ Lo M2 ∧ (∀ j, i' ≤ j → M2.getD j 0 = M'.getD j 0) ∧ (val (M2.take i') : Int) + o * pw i' = val (M'.take i') + val (v.take i'))) (fun _ i _ => m + 2 - (intOf i).toNat)
              case atStart => exact ⟨0, M', 0, Nat.zero_le _, rfl, rfl, by omega, by omega, hr', hOw, HML.out, HLo.out, fun _ _ => rfl, by simp [val]⟩
              case round =>
                obtain ⟨i, M2, o, hi, rfl, rfl, ho0, ho1, hr2, hO2, hrel⟩ := hrel
                have hB2 := hB.only hO2 hG
                rcases Nat.lt_or_ge i (m + 2) with hlt | hge
                · obtain ⟨y, hy, hy0, hy1, hyc⟩ := zaw (j := i) Hv.out hB2.at_ (oh Hvl)
                  obtain ⟨z, hz, hz0, hz1, hzc⟩ := hr2.mid hrel.out.2.1 (i := i) (by have := hrel.out.1; omega)
                  have hzf := hr2.frozen (P.length + i)
                  rcases Int.lt_or_le (z + y + o) 1000000000 with hneg | hpos
                  · go_wp2
                    go_roundw
                    case rel =>
                      exact ⟨i + 1, M2.set i (z + y + o).toNat, 0, by omega, by go_num, rfl, by omega, by omega, hr2.setMid (by have := hrel.out.1; omega) _ _ og, hO2.setCell _ _,
                        by rw [List.length_set]; exact hrel.out.1, zbb hrel.out.2.1 og, fun j hj => by rw [getD_set_ne og]; exact hrel.out.2.2.1 j og,
                        zey (x := z) (y := y) (c := o) (by have := hrel.out.1; omega) (by rw [← hrel.out.2.2.1 i (Nat.le_refl _)]; exact hz.out) hy.out og og hrel.out.2.2.2⟩
                    case measure => simp [intOf]; omega
                  · go_wp2
                    go_roundw
                    case rel =>
                      exact ⟨i + 1, M2.set i (z + y + o - 1000000000).toNat, 1, by omega, by go_num, rfl, by omega, by omega, hr2.setMid (by have := hrel.out.1; omega) _ _ og, hO2.setCell _ _,
                        by rw [List.length_set]; exact hrel.out.1, zbb hrel.out.2.1 og, fun j hj => by rw [getD_set_ne og]; exact hrel.out.2.2.1 j og,
                        zey (x := z) (y := y) (c := o) (by have := hrel.out.1; omega) (by rw [← hrel.out.2.2.1 i (Nat.le_refl _)]; exact hz.out) hy.out og og hrel.out.2.2.2⟩
                    case measure => simp [intOf]; omega
                · obtain rfl : i = m + 2 := og
                  obtain ⟨z, hz, hz0, hz1, hzc⟩ := hr2.mid hrel.out.2.1 (i := m + 2) (by have := hrel.out.1; omega)
                  have hzf := hr2.frozen (P.length + (m + 2))
                  have h2 := hrel.out.2.2.2
                  rw [zai (l := v) (Nat.le_of_eq Hvl.out)] at h2
                  have hd := dig_back HU.out Hm.out Hlt'.out (oh Hxu) HVP.out hg0 Hg.out.1 h2 og
                    (by have h := zbz (zbk hrel.out.2.1 (m + 2)); rw [List.length_take, Nat.min_eq_left (by have := hrel.out.1; omega)] at h; omega)
                  have Hd := Lib.hid hd
                  go_wp2
                  go_ret
                  refine ⟨⟨M2.set (m + 2) 0, ?_, hr2.setMid (by have := hrel.out.1; omega) _ _ og, by rw [List.length_set]; exact hrel.out.1, zbb hrel.out.2.1 og, ?_⟩, hO2.setCell _ _⟩
                  · rw [Hd.out.2.1, Int.toNat_of_nonneg og]; rfl
                  · rw [zdt hrel.out.1]
                    have := Hd.out.2.2
                    omega
            · have hd := dig_exact HU.out Hm.out og Hlt'.out (oh Hxu) HVP.out hg0 Hg.out.2
              have Hd := Lib.hid hd
              go_wp2
              go_ret
              refine ⟨⟨M'.set (m + 2) 0, ?_, hr'.setMid (oh HML) _ _ og, by rw [List.length_set]; exact HML.out, zbb HLo.out og, ?_⟩, hOw.setCell _ _⟩
              · rw [Hd.out.1, Int.toNat_of_nonneg hg0]; rfl
              · rw [zdt HML.out]
                have := Hd.out.2
                omega
end Go.Proofs.YtijjjbgnpfjpmaaGreatDoor
