/-
  Package coarse's each: the iterator's zaf, and its maker's, at lists of profiles that are right.
-/
import Derived.Test.YtijjjbgnpfjpmaaGreatDoorProofCoarseHistory04
import Derived.Test.YtijjjbgnpfjpmaaGreatDoorCoh04
import Derived.DeepKeys
import Derived.WideKeyRuns
import Derived.Maps.RangeRun
import Derived.Test.YtijjjbgnpfjpmaaGreatDoorProofCoarseHistory03
namespace Go.Proofs.YtijjjbgnpfjpmaaGreatDoor
open Go.RowKit Go.Shelf
attribute [local go_sem] Oper.semAt_some
set_option linter.unusedVariables false
def IsPl (w : World) (v : Value) (ll : List (List Nat)) : Prop := IsS 1 (IsK .i64) w (Old w) v ll
theorem IsPl.next {w w' : World} {v : Value} {ll : List (List Nat)} (h : IsPl w v ll) (hb : Below w.heap.size w w') : IsPl w' v ll := (IsS.stb IsK.stb).next h hb
theorem IsPl.get {w : World} {A : Option Addr} {n c : Nat} {ll : List (List Nat)} (h : IsPl w (.slice A n c) ll) {j : Nat} {l : List Nat} (hj : ll[j]? = some l) :
    ∃ b off P k, A = some ⟨b, off, none⟩ ∧ IsNs w (.slice P l.length k) l ∧ w.cell? ⟨b, off + j, none⟩ = some (.slice P l.length k) := by
  obtain ⟨b, off, e, hA, hS, hr, _, hc⟩ := IsS.get h og hj
  obtain ⟨P, k, hv, h1⟩ := id hr
  subst hv
  refine ⟨b, off, P, k, hA, isK_l hr, ?_⟩
  have := hc 0 _ rfl
  rw [Nat.mul_one, Nat.add_zero] at this
  exact this
def key4 (r : List Nat) : Value := .agg #[.int .i64 (r.getD 0 0 : Nat), .int .i64 (r.getD 1 0 : Nat), .int .i64 (r.getD 2 0 : Nat), .int .i64 (r.getD 3 0 : Nat)]
def PlOk (sz : List Nat) (ll : List (List Nat)) : Prop := ∀ r ∈ ll, r.length = sz.length ∧ ∀ i x y : Nat, r[i]? = some x → sz[i]? = some y → x < y
def ValEa (ll : List (List Nat)) (k : Nat) (vs : Array Value) : Prop := ∃ r, ll[k]? = some r ∧ vs = #[.int .i64 (k : Int), key4 r]
def RdEa (w : World) (A : Option Addr) (a B : Nat) (sz : List Nat) (L : Option Addr) (n b : Nat) (W : World) : Prop := Below w.heap.size w W ∧ W.cell? ⟨B, 0, none⟩ = some (.slice A sz.length a) ∧ W.cell? ⟨B + 1, 0, none⟩ = some (.slice L n b)
theorem below_grown {w w' : World} (hb : Below w.heap.size w w') : w.grownBy w' none := ⟨hb.os, hb.tape, hb.output, hb.size, fun j hj _ => hb.block j hj⟩
theorem list4 {l : List Nat} (h : l.length = 4) : ∃ a b c d, l = [a, b, c, d] := by
  rcases l with _ | ⟨a, _ | ⟨b, _ | ⟨c, _ | ⟨d, _ | ⟨e, l⟩⟩⟩⟩⟩ <;> simp at h
  exact ⟨a, b, c, d, rfl⟩
set_option maxRecDepth 100000 in
set_option maxHeartbeats 4000000 in
theorem each_seq (q : Nat) (hq : 1 ≤ q) {w : World} {A L : Option Addr} {a b B : Nat} {sz : List Nat} {ll : List (List Nat)} (hs : IsNs w (.slice A sz.length a) sz) (hp : IsPl w (.slice L ll.length b) ll) (ok : PlOk sz ll) (hl : sz.length ≤ 4) (h36 : ∀ x ∈ sz, x ≤ 36) (hn : ll.length ≤ 10000) :
    SeqD (σ := Unit) Fence.wide q Tryz.prog 167 #[.pointer (some ⟨B + 1, 0, none⟩), .pointer (some ⟨B, 0, none⟩), .pointer (some ⟨B + 1 + 1, 0, none⟩)] (fun k _ => ValEa ll k) (fun _ => RdEa w A a B sz L ll.length b) ll.length w := fun l J W hW hJ hRd hY hS' h0 => by
  have HJ := Lib.hid hJ
  have HR := Lib.hid (fun k W1 => hRd k () W1)
  have HY := Lib.hid (fun k vs W1 (h : J (k, ()) W1) => hY k () vs W1 h)
  have H0 : Hid (J (0, ()) W) := by obtain ⟨_, h⟩ := h0; exact h
  have HS := Lib.hid hs
  have HP := Lib.hid hp
  have OK := Lib.hid ok
  have H36 := Lib.hid h36
  obtain ⟨hbl, hb0, hb1⟩ := hRd 0 () W H0.out
  clear hJ hRd hY hS' h0 hs hp ok h36
  refine callsIn_of_wp Tryz.func167 rfl trivial ?_ rfl
  simp only [Tryz.ntmps167, List.size_toArray, List.length_cons, List.length_nil, Nat.reduceAdd, Nat.reduceSub, Array.replicate_succ, Array.replicate_zero, List.push_toArray, List.append_toArray, List.nil_append, List.cons_append]
  gi_wp2
  clear hb0 hbl hb1
  gi_loopw [12] (fun i wr => ∃ k : Nat, k ≤ ll.length ∧ i = .int .i64 (k : Int) ∧ J (k, ()) wr) (fun i _ => ll.length - (intOf i).toNat)
  case atStart => exact ⟨0, Nat.zero_le _, rfl, H0.out⟩
  case round =>
    rename World => wo
    obtain ⟨k, hk, rfl, hJk⟩ := hrel
    have HJk := Lib.hid hJk
    obtain ⟨hbl, hb0, hb1⟩ := HR.out _ _ hJk
    have HBl := Lib.hid hbl
    clear hJk
    by_cases hlt : k < ll.length
    · have hx := List.getElem?_eq_getElem hlt
      obtain ⟨r, hre⟩ : ∃ r, r = ll[k] := ⟨_, rfl⟩
      rw [← hre] at hx
      have HX := Lib.hid hx
      obtain ⟨hrl, hrx⟩ := OK.out r (List.mem_of_getElem? hx)
      have HRX := Lib.hid hrx
      obtain ⟨b1, o1, P1, c1, rfl, hns, hc⟩ := HP.out.get hx
      replace hc := zac hbl hc
      have HNS := Lib.hid hns
      rw [hrl] at hc HNS
      have hrne : ((sz.length : Int) != (sz.length : Int)) = false := by simp
      obtain ⟨w1, hw1, hbb, rK, hz⟩ := zao wo #[.int .i64 0, .int .i64 0, .int .i64 0, .int .i64 0] 145
      have HK : Hid (Row w1 wo.heap.size 145 (cel .i64 [0, 0, 0, 0])) := rK
      have HBB := Lib.hid hbb
      have HRL := Lib.hid hrl
      have HB0 := Lib.hid hb0
      clear hx hre hbl hb1 hns hrx rK hbb hrl
      gi_wp2
      clear hc hw1 hb0
      gi_loopw [28] (fun i wi => ∃ (j : Nat) (K : List Nat), j ≤ sz.length ∧ i = .int .i64 (j : Int) ∧ Row wi wo.heap.size 145 (cel .i64 K) ∧ Below wo.heap.size wo wi ∧ Hid (K.length = 4 ∧ ∀ i, K.getD i 0 = if i < j then r.getD i 0 else 0)) (fun i _ => sz.length - (intOf i).toNat)
      case atStart => exact ⟨0, _, Nat.zero_le _, rfl, HK.out, HBB.out, rfl, fun i => by rcases i with _ | _ | _ | _ | i <;> simp⟩
      case round =>
        obtain ⟨j, K, hj, rfl, hrow, hbi, hK⟩ := hrel
        have HRow := Lib.hid hrow
        have HBi := Lib.hid hbi
        by_cases hjl : j < sz.length
        · have hjr : j < r.length := by rw [HRL.out]; exact hjl
          have hx := List.getElem?_eq_getElem hjr
          obtain ⟨x, hxe⟩ : ∃ x, x = r[j] := ⟨_, rfl⟩
          rw [← hxe] at hx
          have hy := List.getElem?_eq_getElem hjl
          obtain ⟨y, hye⟩ : ∃ y, y = sz[j] := ⟨_, rfl⟩
          rw [← hye] at hy
          have hxy := HRX.out j x y hx hy
          have hy36 := H36.out y (List.mem_of_getElem? hy)
          have HXj := Lib.hid hx
          obtain ⟨bx, ox, rfl, _, hcx⟩ := HNS.out.at hx
          obtain ⟨bs, os, rfl, _, hcs⟩ := HS.out.at hy
          replace hcx := zac (zaa HBl.out hbi) hcx
          replace hcs := zac (zaa HBl.out hbi) hcs
          have hb0 := zac hbi HB0.out
          have k0 : ¬ (x : Int) < 0 := by omega
          have k1 : ¬ (x : Int) ≥ (y : Int) := by omega
          have hj4 : j < K.length := by rw [hK.out.1]; omega
          obtain ⟨z, hz, hz0, hzc⟩ := hrow.num (i := j) hj4
          have hzf := hrow.frozen j
          clear hx hxe hy hye hrow hbi
          gi_wp2
          go_roundw
          case rel =>
            refine ⟨j + 1, K.set j x, by omega, by go_num, HRow.out.setNum j x _ rfl, HBi.out.setCell (p := ⟨wo.heap.size, j, none⟩) (Nat.le_refl _) _, by rw [List.length_set]; exact hK.out.1, fun i => ?_⟩
            by_cases hij : i = j
            · subst hij
              rw [getD_set_eq hj4, if_pos (by omega), List.getD_eq_getElem?_getD, HXj.out]
              rfl
            · rw [getD_set_ne (fun e => hij e.symm), hK.out.2 i]
              by_cases h1 : i < j
              · rw [if_pos h1, if_pos (by omega)]
              · rw [if_neg h1, if_neg (by omega)]
          case measure => simp [intOf]; omega
        · obtain rfl : j = sz.length := og
          have HJ1 := Lib.hid (HJ.out _ _ _ none HJk.out (below_grown HBi.out) (fun r e => by cases e))
          obtain ⟨v0, v1, v2, v3, rfl⟩ := list4 hK.out.1
          have hkey : Value.agg #[.int .i64 (v0 : Int), .int .i64 (v1 : Int), .int .i64 (v2 : Int), .int .i64 (v3 : Int)] = key4 r := by
            have hz : ∀ i, [v0, v1, v2, v3].getD i 0 = r.getD i 0 := fun i => by
              rw [hK.out.2 i]
              split
              · rfl
              · rw [List.getD_eq_getElem?_getD, List.getElem?_eq_none (by rw [HRL.out]; omega)]; rfl
            have z0 := hz 0
            have z1 := hz 1
            have z2 := hz 2
            have z3 := hz 3
            simp only [List.getD_cons_zero, List.getD_cons_succ] at z0 z1 z2 z3
            subst z0 z1 z2 z3
            rfl
          have HKy := Lib.hid hkey
          obtain ⟨fn, tmps, assign, body, hyy, hR⟩ := HY.out _ #[.int .i64 (k : Int), .agg #[.int .i64 (v0 : Int), .int .i64 (v1 : Int), .int .i64 (v2 : Int), .int .i64 (v3 : Int)]] wr HJ1.out hlt ⟨r, HX.out, by rw [HKy.out]⟩
          have HRn := Lib.hid hR
          have q0 : wr.cell? ⟨wo.heap.size, 0, none⟩ = some (.int .i64 (v0 : Int)) := hrow.cell 0
          have q1 : wr.cell? ⟨wo.heap.size, 1, none⟩ = some (.int .i64 (v1 : Int)) := hrow.cell 1
          have q2 : wr.cell? ⟨wo.heap.size, 2, none⟩ = some (.int .i64 (v2 : Int)) := hrow.cell 2
          have q3 : wr.cell? ⟨wo.heap.size, 3, none⟩ = some (.int .i64 (v3 : Int)) := hrow.cell 3
          clear hR hkey hrow hbi
          gi_wp2
          refine HRn.out.mono ?_
          rintro e W3 ⟨rfl, _, hJ3⟩
          have HJ3 := Lib.hid hJ3
          clear hJ3
          gi_wp2
          go_roundw
          case rel => exact ⟨k + 1, by omega, by go_num, HJ3.out⟩
          case measure => simp [intOf]; omega
    · obtain rfl : k = ll.length := og
      clear hb0 hb1 hbl
      gi_wp2
      exact ⟨rfl, _, results_none rfl _ _ _, ⟨_, rfl⟩, (), HJk.out⟩
theorem each_n (w : World) (x0 x1 x2 x3 : Value) (L : Option Addr) (n b : Nat) (p : Option Addr) :
    Calls Tryz.prog 97 #[.agg #[x0, x1, x2, x3], .slice L n b, .pointer p] w fun e w' => e = .returned (.func (.func 167) #[] #[.pointer (some ⟨w.heap.size + 1, 0, none⟩), .pointer (some ⟨w.heap.size, 0, none⟩), .pointer (some ⟨w.heap.size + 1 + 1, 0, none⟩)]) ∧
      Row w' w.heap.size 134 [x0, x1, x2, x3] ∧ Row w' (w.heap.size + 1) 66 [.slice L n b] ∧ Below w.heap.size w w' := by
  go_enter Tryz.func97, Tryz.ntmps97
  go_wp2_with fail
  go_ret
  obtain ⟨w1, hw1, hb1, hr1, hr2, _, -⟩ := zde w #[x0, x1, x2, x3] #[.slice L n b] #[.pointer p] 134 66 144
  rw [hw1]
  exact ⟨rfl, hr1, hr2, hb1⟩
end Go.Proofs.YtijjjbgnpfjpmaaGreatDoor
namespace Go.Proofs.YtijjjbgnpfjpmaaGreatDoor
open Go.RowKit
set_option linter.unusedVariables false
set_option linter.unusedSimpArgs false
abbrev Q4 := Nat × Nat × Nat × Nat
def kv (q : Q4) : Value := .agg #[.int .i64 (q.1 : Nat), .int .i64 (q.2.1 : Nat), .int .i64 (q.2.2.1 : Nat), .int .i64 (q.2.2.2 : Nat)]
def q4 (r : List Nat) : Q4 := (r.getD 0 0, r.getD 1 0, r.getD 2 0, r.getD 3 0)
theorem key4_kv (r : List Nat) : key4 r = kv (q4 r) := rfl
theorem und4 : Tryz.prog.underlying 145 = some (.array 4 3) := by kernel_rfl
theorem undM : Tryz.prog.underlying 140 = some (.map 145 3) := by kernel_rfl
theorem undI : Tryz.prog.underlying 3 = some (.int .i64) := by kernel_rfl
theorem plainI : Tryz.prog.plainKey 3 = true := by kernel_rfl
theorem cellsI : Tryz.prog.cellsOf 3 = 1 := by kernel_rfl
theorem infoI : ∃ i, Tryz.prog.info? 3 = some i := by
  have h := int_info
  cases hi : Tryz.prog.info? 3 with
  | none => rw [hi] at h; cases h
  | some i => exact ⟨i, rfl⟩
theorem run_equal4 (w : World) (a b : Q4) : (Op.equal 145 (kv a) (kv b)).run Tryz.prog w = .ok (decide (a = b)) w := by
  obtain ⟨i, hi⟩ := infoI
  obtain ⟨a0, a1, a2, a3⟩ := a
  obtain ⟨b0, b1, b2, b3⟩ := b
  have p0 : ∀ x0 x1 x2 x3 : Value, (part 3 #[x0, x1, x2, x3] 0).run Tryz.prog w = .ok x0 w := fun x0 x1 x2 x3 => run_part_plain w plainI rfl
  have p1 : ∀ x0 x1 x2 x3 : Value, (part 3 #[x0, x1, x2, x3] 1).run Tryz.prog w = .ok x1 w := fun x0 x1 x2 x3 => run_part_plain w plainI rfl
  have p2 : ∀ x0 x1 x2 x3 : Value, (part 3 #[x0, x1, x2, x3] 2).run Tryz.prog w = .ok x2 w := fun x0 x1 x2 x3 => run_part_plain w plainI rfl
  have p3 : ∀ x0 x1 x2 x3 : Value, (part 3 #[x0, x1, x2, x3] 3).run Tryz.prog w = .ok x3 w := fun x0 x1 x2 x3 => run_part_plain w plainI rfl
  have hq : ∀ (a b : Int), (Op.equalIn 9999 3 (.int .i64 a) (.int .i64 b)).run Tryz.prog w = .ok (a == b) w := fun a b => run_equalIn_int (w := w) 9998 3 .i64 .i64 a b undI
  have e : Op.equal 145 (kv (a0, a1, a2, a3)) (kv (b0, b1, b2, b3)) = Op.equalIn (9999 + 1) 145 (.agg #[.int .i64 (a0 : Nat), .int .i64 (a1 : Nat), .int .i64 (a2 : Nat), .int .i64 (a3 : Nat)]) (.agg #[.int .i64 (b0 : Nat), .int .i64 (b1 : Nat), .int .i64 (b2 : Nat), .int .i64 (b3 : Nat)]) := rfl
  rw [e, run_equalIn_array w 9999 _ _ und4 hi, cellsI]
  simp only [show List.range 4 = [0, 1, 2, 3] from rfl, Op.eqItems, Sem.run_bind, Nat.mul_one, Nat.zero_mul, p0, p1, p2, p3, hq, Result.andThen_ok]
  have hi : ∀ a b : Nat, ((a : Int) == (b : Int)) = decide (a = b) := fun a b => by
    by_cases h : a = b
    · simp [h]
    · have : ¬ (a : Int) = (b : Int) := by omega
      simp [h, this]
  simp only [hi]
  by_cases h0 : a0 = b0 <;> by_cases h1 : a1 = b1 <;> by_cases h2 : a2 = b2 <;> by_cases h3 : a3 = b3 <;> simp [h0, h1, h2, h3, Sem.run_bind, p1, p2, p3, hq, Result.andThen_ok] <;> omega
theorem run_check4 (w : World) (em : Bool) (a : Q4) : (Instr.checkKey em 10000 145 (kv a)).run Tryz.prog w = .ok () w := by
  obtain ⟨i, hi⟩ := infoI
  have p0 : ∀ x0 x1 x2 x3 : Value, (part 3 #[x0, x1, x2, x3] 0).run Tryz.prog w = .ok x0 w := fun x0 x1 x2 x3 => run_part_plain w plainI rfl
  have p1 : ∀ x0 x1 x2 x3 : Value, (part 3 #[x0, x1, x2, x3] 1).run Tryz.prog w = .ok x1 w := fun x0 x1 x2 x3 => run_part_plain w plainI rfl
  have p2 : ∀ x0 x1 x2 x3 : Value, (part 3 #[x0, x1, x2, x3] 2).run Tryz.prog w = .ok x2 w := fun x0 x1 x2 x3 => run_part_plain w plainI rfl
  have p3 : ∀ x0 x1 x2 x3 : Value, (part 3 #[x0, x1, x2, x3] 3).run Tryz.prog w = .ok x3 w := fun x0 x1 x2 x3 => run_part_plain w plainI rfl
  have hc : ∀ v : Int, (Instr.checkKey em 9999 3 (.int .i64 v)).run Tryz.prog w = .ok () w := fun v => MapKept.run_checkKey (k := .int .i64 v) undI (by simp [MapKept.IsKey]) em 9998
  show (Instr.checkKey em (9999 + 1) 145 (kv a)).run Tryz.prog w = .ok () w
  unfold Instr.checkKey kv
  simp only [Sem.run_bind, run_underlying und4, Result.andThen_ok]
  simp only [Std.Legacy.Range.forIn_eq_forIn_range', Std.Legacy.Range.size, Nat.sub_zero, Nat.add_one_sub_one, Nat.div_one]
  simp [List.range', Sem.run_bind, run_sizeOf w hi, cellsI, p0, p1, p2, p3, hc, Result.andThen_ok]
def ent : Nat → List (Q4 × Nat) → List MapEntry
  | _, [] => []
  | i, (q, c) :: l => ⟨kv q, .int .i64 (c : Nat), i⟩ :: ent (i + 1) l
def fm (q : Q4) : List (Q4 × Nat) → Nat → Option (Nat × Nat)
  | [], _ => none
  | (p, c) :: l, i => if q = p then some (i, c) else fm q l (i + 1)
def cnt (q : Q4) (m : List (Q4 × Nat)) : Nat := ((fm q m 0).map (·.2)).getD 0
def idx (q : Q4) (m : List (Q4 × Nat)) : Nat := ((fm q m 0).map (·.1)).getD m.length
def IsMp (w : World) (b : Nat) (m : List (Q4 × Nat)) : Prop := w.heap[b]? = some (.map (ent 0 m).toArray m.length)
theorem ent_at (s : Nat) (m : List (Q4 × Nat)) {i : Nat} {q : Q4} {c : Nat} (h : m[i]? = some (q, c)) : (ent s m)[i]? = some ⟨kv q, .int .i64 (c : Nat), s + i⟩ := by
  induction m generalizing s i with
  | nil => cases h
  | cons a l ih =>
    obtain ⟨p, d⟩ := a
    rcases i with _ | i
    · cases h; rfl
    · rw [ent, List.getElem?_cons_succ, ih (s + 1) (by simpa using h)]
      simp; omega
theorem ent_append (s : Nat) (m : List (Q4 × Nat)) (q : Q4) (c : Nat) : ent s (m ++ [(q, c)]) = ent s m ++ [⟨kv q, .int .i64 (c : Nat), s + m.length⟩] := by
  induction m generalizing s with
  | nil => rfl
  | cons a l ih =>
    obtain ⟨p, d⟩ := a
    rw [List.cons_append, ent, ih, ent, List.cons_append, List.length_cons]
    simp; omega
theorem ent_set (s : Nat) (m : List (Q4 × Nat)) {i : Nat} {q : Q4} {c d : Nat} (h : m[i]? = some (q, c)) : ent s (m.set i (q, d)) = (ent s m).set i ⟨kv q, .int .i64 (d : Nat), s + i⟩ := by
  induction m generalizing s i with
  | nil => cases h
  | cons a l ih =>
    obtain ⟨p, e⟩ := a
    rcases i with _ | i
    · cases h; rfl
    · rw [List.set_cons_succ, ent, ih (s + 1) (by simpa using h), ent, List.set_cons_succ]
      congr 2
      simp; omega
theorem run_findAsking4 (w : World) (q : Q4) (m : List (Q4 × Nat)) : ∀ i s, (Instr.findAsking 145 (kv q) (ent s m) i).run Tryz.prog w = .ok ((fm q m i).map fun x => (x.1, .int .i64 (x.2 : Nat))) w := by
  induction m with
  | nil => intro i s; rfl
  | cons a l ih =>
    intro i s
    obtain ⟨p, c⟩ := a
    simp only [ent, Instr.findAsking, Sem.run_bind, run_equal4, Result.andThen_ok, fm]
    by_cases h : q = p
    · simp [h]
    · simp only [h, decide_false, Bool.false_eq_true, if_false]
      exact ih (i + 1) (s + 1)
theorem run_findKey4 (w : World) (q : Q4) (m : List (Q4 × Nat)) : (Instr.findKey 145 (kv q) (ent 0 m)).run Tryz.prog w = .ok ((fm q m 0).map fun x => (x.1, .int .i64 (x.2 : Nat))) w := by
  unfold Instr.findKey
  simp only [Sem.run_bind, run_underlying und4, Result.andThen_ok]
  cases m with
  | nil => rfl
  | cons a l =>
    obtain ⟨p, c⟩ := a
    have e : Instr.findNow (.array 4 3) (kv q) (ent 0 ((p, c) :: l)) 0 = none := by
      simp [ent, Instr.findNow, Instr.sameNow, kv]
    rw [e]
    exact run_findAsking4 w q _ 0 0
theorem run_zeroI (w : World) : (zeroValue 3).run Tryz.prog w = .ok (.int .i64 0) w := by
  have h := int_info
  cases hi : Tryz.prog.info? 3 with
  | none => rw [hi] at h; cases h
  | some i =>
    rw [hi] at h
    simp at h
    simp [zeroValue, typeInfo, Sem.run_bind, Sem.run, hi, h.1, Result.andThen_ok]
theorem run_lookup4 {w : World} {b : Nat} {m : List (Q4 × Nat)} (h : IsMp w b m) (q : Q4) : (Instr.lookup 140 (.map (some b)) (kv q) false).run Tryz.prog w = .ok (.int .i64 (cnt q m : Nat)) w := by
  unfold Instr.lookup
  simp only [Sem.run_bind, run_underlying undM, Result.andThen_ok, MapKept.run_getObj_map h, Sem.run_pure, run_check4, run_findKey4]
  unfold cnt
  cases fm q m 0 with
  | none => simp [Sem.run_bind, run_zeroI, Result.andThen_ok]
  | some x => simp [Sem.run_bind, Result.andThen_ok]
theorem fm_some {q : Q4} {m : List (Q4 × Nat)} {i j c : Nat} (h : fm q m i = some (j, c)) : i ≤ j ∧ m[j - i]? = some (q, c) := by
  induction m generalizing i with
  | nil => cases h
  | cons a l ih =>
    obtain ⟨p, d⟩ := a
    unfold fm at h
    split at h
    · rename_i e
      simp only [Option.some.injEq, Prod.mk.injEq] at h
      obtain ⟨rfl, rfl⟩ := h
      subst e
      exact ⟨Nat.le_refl _, by simp⟩
    · obtain ⟨h1, h2⟩ := ih h
      refine ⟨by omega, ?_⟩
      rw [show j - i = (j - (i + 1)) + 1 by omega, List.getElem?_cons_succ]
      exact h2
def zep (q : Q4) (m : List (Q4 × Nat)) : List (Q4 × Nat) := if (fm q m 0).isSome then m else m ++ [(q, 0)]
theorem open0_at (q : Q4) (m : List (Q4 × Nat)) : (zep q m)[idx q m]? = some (q, cnt q m) := by
  unfold zep idx cnt
  cases h : fm q m 0 with
  | none => simp
  | some x =>
    obtain ⟨j, c⟩ := x
    simpa using (fm_some h).2
theorem list_modify_self {α : Type} (l : List α) (i : Nat) (f : α → α) (h : ∀ x, l[i]? = some x → f x = x) : l.modify i f = l := by
  apply List.ext_getElem?
  intro j
  rw [List.getElem?_modify]
  cases hx : l[j]? with
  | none => rfl
  | some x =>
    by_cases hj : i = j
    · subst hj
      simp [h x hx]
    · simp [hj]
theorem list_modify_set {α : Type} (l : List α) (i : Nat) (f : α → α) (x : α) (h : l[i]? = some x) : l.modify i f = l.set i (f x) := by
  apply List.ext_getElem?
  intro j
  rw [List.getElem?_modify, List.getElem?_set]
  by_cases hj : i = j
  · subst hj
    rw [h, if_pos rfl, if_pos (List.getElem?_eq_some_iff.1 h).1]
    simp
  · rw [if_neg hj]
    cases hx : l[j]? with
    | none => rfl
    | some y => simp [hj]
theorem run_keyStays4 (w : World) (q : Q4) : (Instr.keyThatStays (kv q) (kv q)).run Tryz.prog w = .ok (kv q) w := by
  have h : Instr.sameBits 10000 (kv q) (kv q) = true := by
    unfold kv
    simp [Instr.sameBits]
  simp [Instr.keyThatStays, h]
theorem run_mapEntry4 {w : World} {b : Nat} {m : List (Q4 × Nat)} (h : IsMp w b m) (q : Q4) :
    (Instr.mapEntry 140 (.map (some b)) (kv q)).run Tryz.prog w = .ok (.tuple #[.int .i64 (cnt q m : Nat), .int .i64 (idx q m : Nat)]) (w.putObj b (.map (ent 0 (zep q m)).toArray (zep q m).length)) := by
  unfold Instr.mapEntry
  simp only [Sem.run_bind, run_underlying undM, Result.andThen_ok, MapKept.run_getObj_map h, Sem.run_pure, run_check4, run_findKey4]
  unfold cnt idx zep
  cases hf : fm q m 0 with
  | none =>
    simp [Sem.run_bind, run_zeroI, Result.andThen_ok, MapKept.run_setObj_map _ h, ent_append, goInt]
    rfl
  | some x =>
    obtain ⟨j, c⟩ := x
    have hm := (fm_some hf).2
    rw [Nat.sub_zero] at hm
    have he := ent_at 0 m hm
    rw [Nat.zero_add] at he
    have hmod : (ent 0 m).modify j (fun e => { e with key := kv q }) = ent 0 m := list_modify_self _ _ _ fun x hx => by
      rw [he] at hx
      cases hx
      rfl
    simp [Sem.run_bind, Result.andThen_ok, he, run_keyStays4, MapKept.run_setObj_map _ h, goInt, hmod]
    rfl
theorem find_stamp (m : List (Q4 × Nat)) {i s : Nat} (h : i < m.length) : (ent s m).findIdx? (fun e => (e.born : Int) == ((s + i : Nat) : Int)) = some i := by
  induction m generalizing i s with
  | nil => cases h
  | cons a l ih =>
    obtain ⟨p, d⟩ := a
    rcases i with _ | i
    · simp [ent, List.findIdx?_cons]
    · rw [ent, List.findIdx?_cons]
      have : (((s : Nat) : Int) == ((s + (i + 1) : Nat) : Int)) = false := by simp; omega
      simp only [this, Bool.false_eq_true, if_false]
      have h2 := ih (i := i) (s := s + 1) (by simpa using h)
      rw [show s + 1 + i = s + (i + 1) by omega] at h2
      rw [h2]
      rfl
theorem run_entryStore4 {w : World} {b : Nat} {m : List (Q4 × Nat)} (h : IsMp w b m) {i c : Nat} {q : Q4} (hi : m[i]? = some (q, c)) (d : Nat) :
    (Instr.entryStore 140 (.map (some b)) (.int .i64 (i : Nat)) (.int .i64 (d : Nat))).run Tryz.prog w = .ok () (w.putObj b (.map (ent 0 (m.set i (q, d))).toArray m.length)) := by
  have hl : i < m.length := (List.getElem?_eq_some_iff.1 hi).1
  have hs := find_stamp m (s := 0) hl
  rw [Nat.zero_add] at hs
  have he := ent_at 0 m hi
  have hmod : (ent 0 m).modify i (fun e => { e with val := Value.int .i64 (d : Nat) }) = ent 0 (m.set i (q, d)) := by
    rw [list_modify_set _ _ _ _ he, ent_set 0 m hi]
  unfold Instr.entryStore
  simp [Sem.run_bind, Result.andThen_ok, MapKept.run_getObj_map h, asInt, asIntOf, hs, MapKept.run_setObj_map _ h, hmod]
  rfl
def bump (q : Q4) : List (Q4 × Nat) → List (Q4 × Nat)
  | [] => [(q, 1)]
  | (p, c) :: l => if q = p then (p, c + 1) :: l else (p, c) :: bump q l
theorem fm_shift (q : Q4) (m : List (Q4 × Nat)) (i k : Nat) : fm q m (i + k) = (fm q m i).map fun x => (x.1 + k, x.2) := by
  induction m generalizing i with
  | nil => rfl
  | cons a l ih =>
    obtain ⟨p, c⟩ := a
    unfold fm
    split
    · rfl
    · rw [show i + k + 1 = i + 1 + k by omega, ih]
theorem zbt (q p : Q4) (c : Nat) (l : List (Q4 × Nat)) : cnt q ((p, c) :: l) = if q = p then c else cnt q l := by
  unfold cnt
  rw [fm]
  split
  · rfl
  · rw [fm_shift q l 0 1]
    cases fm q l 0 <;> rfl
theorem idx_cons (q p : Q4) (c : Nat) (l : List (Q4 × Nat)) : idx q ((p, c) :: l) = if q = p then 0 else idx q l + 1 := by
  unfold idx
  rw [fm]
  split
  · rfl
  · rw [fm_shift q l 0 1]
    cases fm q l 0 <;> rfl
theorem open0_cons (q p : Q4) (c : Nat) (l : List (Q4 × Nat)) : zep q ((p, c) :: l) = (p, c) :: (if q = p then l else zep q l) := by
  unfold zep
  rw [fm]
  split
  · simp
  · rw [fm_shift q l 0 1]
    cases fm q l 0 <;> simp
theorem bump_eq (q : Q4) (m : List (Q4 × Nat)) : (zep q m).set (idx q m) (q, cnt q m + 1) = bump q m := by
  induction m with
  | nil => rfl
  | cons a l ih =>
    obtain ⟨p, c⟩ := a
    rw [open0_cons, idx_cons, zbt, bump]
    split
    · rename_i h; subst h; rfl
    · rw [List.set_cons_succ, ih]
theorem cnt_open0 (q : Q4) (m : List (Q4 × Nat)) : cnt q (zep q m) = cnt q m := by
  induction m with
  | nil => simp [zep, fm, cnt]
  | cons a l ih =>
    obtain ⟨p, c⟩ := a
    rw [open0_cons, zbt, zbt]
    split
    · rfl
    · exact ih
theorem open0_length (q : Q4) (m : List (Q4 × Nat)) : (bump q m).length = (zep q m).length := by rw [← bump_eq, List.length_set]
theorem cnt_bump (p q : Q4) (m : List (Q4 × Nat)) : cnt p (bump q m) = if p = q then cnt q m + 1 else cnt p m := by
  induction m with
  | nil => rw [bump, zbt]; split <;> rfl
  | cons a l ih =>
    obtain ⟨r, c⟩ := a
    rw [bump]
    by_cases h : q = r
    · subst h
      rw [if_pos rfl, zbt, zbt, zbt, if_pos rfl]
      split <;> rfl
    · rw [if_neg h, zbt, ih, zbt, zbt, if_neg h]
      by_cases h1 : p = r
      · subst h1
        rw [if_pos rfl, if_pos rfl, if_neg (fun e => h e.symm)]
      · rw [if_neg h1, if_neg h1]
def Keys (m : List (Q4 × Nat)) : Prop := (m.map (·.1)).Nodup
theorem bump_keys (q p : Q4) (m : List (Q4 × Nat)) : p ∈ (bump q m).map (·.1) ↔ p = q ∨ p ∈ m.map (·.1) := by
  induction m with
  | nil => simp [bump]
  | cons a l ih =>
    obtain ⟨r, c⟩ := a
    rw [bump]
    by_cases h : q = r
    · subst h
      simp
    · rw [if_neg h, List.map_cons, List.mem_cons, ih, List.map_cons, List.mem_cons]
      constructor
      · rintro (h1 | h1 | h1)
        · exact .inr (.inl h1)
        · exact .inl h1
        · exact .inr (.inr h1)
      · rintro (h1 | h1 | h1)
        · exact .inr (.inl h1)
        · exact .inl h1
        · exact .inr (.inr h1)
theorem Keys.bump {q : Q4} {m : List (Q4 × Nat)} (h : Keys m) : Keys (bump q m) := by
  unfold Keys at h ⊢
  induction m with
  | nil => simp [Go.Proofs.YtijjjbgnpfjpmaaGreatDoor.bump]
  | cons a l ih =>
    obtain ⟨r, c⟩ := a
    rw [Go.Proofs.YtijjjbgnpfjpmaaGreatDoor.bump]
    rw [List.map_cons, List.nodup_cons] at h
    by_cases h1 : q = r
    · subst h1
      rw [if_pos rfl, List.map_cons, List.nodup_cons]
      exact h
    · rw [if_neg h1, List.map_cons, List.nodup_cons]
      refine ⟨fun hm => ?_, ih h.2⟩
      rcases (bump_keys q r l).1 hm with h2 | h2
      · exact h1 h2.symm
      · exact h.1 h2
def zdc (l : List Q4) : List (Q4 × Nat) := l.foldl (fun m q => bump q m) []
theorem zem (l : List Q4) (q : Q4) : zdc (l ++ [q]) = bump q (zdc l) := by simp [zdc, List.foldl_append]
theorem rev_ind {α : Type} {P : List α → Prop} (h0 : P []) (h1 : ∀ l a, P l → P (l ++ [a])) (l : List α) : P l := by
  have : ∀ l : List α, P l.reverse := fun l => by
    induction l with
    | nil => exact h0
    | cons a l ih => rw [List.reverse_cons]; exact h1 _ _ ih
  have h := this l.reverse
  rwa [List.reverse_reverse] at h
theorem tally_keys (l : List Q4) : Keys (zdc l) := by
  refine rev_ind (P := fun l => Keys (zdc l)) (by simp [zdc, Keys]) (fun l a ih => ?_) l
  show Keys (zdc (l ++ [a]))
  rw [zem]
  exact ih.bump
theorem cnt_tally (l : List Q4) (q : Q4) : cnt q (zdc l) = l.count q := by
  refine rev_ind (P := fun l => cnt q (zdc l) = l.count q) rfl (fun l a ih => ?_) l
  show cnt q (zdc (l ++ [a])) = (l ++ [a]).count q
  rw [zem, cnt_bump, List.count_append, List.count_singleton]
  by_cases h : q = a
  · subst h
    simp [ih]
  · rw [if_neg h, ih, if_neg (fun e => h (Eq.symm (by simpa using e)))]
    rfl
end Go.Proofs.YtijjjbgnpfjpmaaGreatDoor
namespace Go.Proofs.YtijjjbgnpfjpmaaGreatDoor
set_option linter.unusedVariables false
def numL : List Nat → List Nat → Nat
  | [], _ => 0
  | _ :: sz, r => r.getD 0 0 * prd sz + numL sz (r.drop 1)
theorem zbv (l : List Nat) (k j : Nat) : (l.drop k).getD j 0 = l.getD (k + j) 0 := by
  rw [List.getD_eq_getElem?_getD, List.getD_eq_getElem?_getD, List.getElem?_drop]
theorem numL_drop {sz : List Nat} (r : List Nat) {k x : Nat} (h : sz[k]? = some x) : numL (sz.drop k) (r.drop k) = r.getD k 0 * prd (sz.drop (k + 1)) + numL (sz.drop (k + 1)) (r.drop (k + 1)) := by
  have hk : k < sz.length := (List.getElem?_eq_some_iff.1 h).1
  rw [List.drop_eq_getElem_cons hk, numL, zbv, List.drop_drop, Nat.add_zero]
theorem numL_congr {sz r s : List Nat} (h : ∀ j, j < sz.length → r.getD j 0 = s.getD j 0) : numL sz r = numL sz s := by
  induction sz generalizing r s with
  | nil => rfl
  | cons x sz ih =>
    rw [numL, numL, h 0 (by simp), ih (r := r.drop 1) (s := s.drop 1) fun j hj => ?_]
    rw [zbv, zbv]
    exact h (1 + j) (by rw [List.length_cons]; omega)
theorem zed {sz r : List Nat} (h : ∀ j x, sz[j]? = some x → r.getD j 0 < x) : numL sz r < prd sz := by
  induction sz generalizing r with
  | nil => simp [numL, prd_nil]
  | cons x sz ih =>
    rw [numL, zco]
    have h0 := h 0 x rfl
    have h1 := ih (r := r.drop 1) fun j y hj => by rw [zbv, Nat.add_comm]; exact h (j + 1) y (by simpa using hj)
    calc r.getD 0 0 * prd sz + numL sz (r.drop 1) < r.getD 0 0 * prd sz + prd sz := by omega
      _ = (r.getD 0 0 + 1) * prd sz := by rw [Nat.add_mul, Nat.one_mul]
      _ ≤ x * prd sz := Nat.mul_le_mul_right _ h0
theorem numL_inj {sz r s : List Nat} (hr : ∀ j x, sz[j]? = some x → r.getD j 0 < x) (hs : ∀ j x, sz[j]? = some x → s.getD j 0 < x) (h : numL sz r = numL sz s) : ∀ j, j < sz.length → r.getD j 0 = s.getD j 0 := by
  induction sz generalizing r s with
  | nil => intro j hj; simp at hj
  | cons x sz ih =>
    rw [numL, numL] at h
    have hr1 : ∀ j y, sz[j]? = some y → (r.drop 1).getD j 0 < y := fun j y hj => by rw [zbv, Nat.add_comm]; exact hr (j + 1) y (by simpa using hj)
    have hs1 : ∀ j y, sz[j]? = some y → (s.drop 1).getD j 0 < y := fun j y hj => by rw [zbv, Nat.add_comm]; exact hs (j + 1) y (by simpa using hj)
    have b1 := zed hr1
    have b2 := zed hs1
    have e0 : r.getD 0 0 = s.getD 0 0 := by
      have d1 : (r.getD 0 0 * prd sz + numL sz (r.drop 1)) / prd sz = r.getD 0 0 := by
        rw [Nat.mul_comm, Nat.mul_add_div (by omega), Nat.div_eq_of_lt b1, Nat.add_zero]
      have d2 : (s.getD 0 0 * prd sz + numL sz (s.drop 1)) / prd sz = s.getD 0 0 := by
        rw [Nat.mul_comm, Nat.mul_add_div (by omega), Nat.div_eq_of_lt b2, Nat.add_zero]
      rw [← d1, ← d2, h]
    have e1 : numL sz (r.drop 1) = numL sz (s.drop 1) := by rw [e0] at h; omega
    intro j hj
    rcases j with _ | j
    · exact e0
    · have := ih hr1 hs1 e1 j (by simpa using hj)
      rwa [zbv, zbv, Nat.add_comm] at this
def lq (q : Q4) : List Nat := [q.1, q.2.1, q.2.2.1, q.2.2.2]
theorem lq_q4 (r : List Nat) {j : Nat} (h : j < 4) : (lq (q4 r)).getD j 0 = r.getD j 0 := by
  rcases j with _ | _ | _ | _ | j
  · rfl
  · rfl
  · rfl
  · rfl
  · omega
def dsOf (sz : List Nat) (n : Nat) (es : List (Q4 × Nat)) : List Rat := es.foldl (fun d e => d.set (numL sz (lq e.1)) (mkRat e.2 n)) (List.replicate (prd sz) 0)
theorem zfa (sz : List Nat) (n : Nat) (es : List (Q4 × Nat)) (e : Q4 × Nat) : dsOf sz n (es ++ [e]) = (dsOf sz n es).set (numL sz (lq e.1)) (mkRat e.2 n) := by simp [dsOf, List.foldl_append]
theorem dsOf_len (sz : List Nat) (n : Nat) (es : List (Q4 × Nat)) : (dsOf sz n es).length = prd sz := by
  refine rev_ind (P := fun es => (dsOf sz n es).length = prd sz) (by simp [dsOf]) (fun l a ih => ?_) es
  show (dsOf sz n (l ++ [a])).length = prd sz
  rw [zfa, List.length_set, ih]
theorem dsOf_none {sz : List Nat} {n i : Nat} (hi : i < prd sz) {es : List (Q4 × Nat)} (h : ∀ e ∈ es, numL sz (lq e.1) ≠ i) : (dsOf sz n es)[i]? = some 0 := by
  revert h
  refine rev_ind (P := fun es => (∀ e ∈ es, numL sz (lq e.1) ≠ i) → (dsOf sz n es)[i]? = some 0) (fun _ => ?_) (fun l a ih h => ?_) es
  · simp [dsOf, hi]
  · show (dsOf sz n (l ++ [a]))[i]? = some 0
    rw [zfa, List.getElem?_set_ne (h a (by simp))]
    exact ih fun e he => h e (by simp [he])
theorem dsOf_some {sz : List Nat} {n : Nat} {es : List (Q4 × Nat)} (hn : (es.map fun e => numL sz (lq e.1)).Nodup) {e : Q4 × Nat} (he : e ∈ es) (hi : numL sz (lq e.1) < prd sz) : (dsOf sz n es)[numL sz (lq e.1)]? = some (mkRat e.2 n) := by
  revert hn he
  refine rev_ind (P := fun es => (es.map fun e => numL sz (lq e.1)).Nodup → e ∈ es → (dsOf sz n es)[numL sz (lq e.1)]? = some (mkRat e.2 n)) (fun _ h => by simp at h) (fun l a ih hn he => ?_) es
  show (dsOf sz n (l ++ [a]))[numL sz (lq e.1)]? = some (mkRat e.2 n)
  rw [List.map_append, List.map_cons, List.map_nil, List.nodup_append] at hn
  obtain ⟨n1, _, n3⟩ := hn
  rw [zfa]
  rcases List.mem_append.1 he with h | h
  · have hne : numL sz (lq a.1) ≠ numL sz (lq e.1) := fun e' => n3 _ (List.mem_map.2 ⟨e, h, rfl⟩) _ (List.mem_singleton.2 rfl) e'.symm
    rw [List.getElem?_set_ne hne]
    exact ih n1 h
  · obtain rfl := List.mem_singleton.1 h
    rw [List.getElem?_set_self (by rw [dsOf_len]; exact hi)]
def zaz (sz : List Nat) (ll : List (List Nat)) : List Rat := (List.range (prd sz)).map fun i => mkRat ((ll.map (numL sz)).count i : Nat) ll.length
theorem tally_mem (L : List Q4) (p : Q4) : p ∈ (zdc L).map (·.1) ↔ p ∈ L := by
  refine rev_ind (P := fun L => p ∈ (zdc L).map (·.1) ↔ p ∈ L) (by simp [zdc]) (fun l a ih => ?_) L
  show p ∈ (zdc (l ++ [a])).map (·.1) ↔ p ∈ l ++ [a]
  rw [zem, bump_keys, ih, List.mem_append, List.mem_singleton, or_comm]
theorem cnt_mem {m : List (Q4 × Nat)} (hk : Keys m) {e : Q4 × Nat} (h : e ∈ m) : cnt e.1 m = e.2 := by
  induction m with
  | nil => cases h
  | cons a l ih =>
    obtain ⟨p, c⟩ := a
    unfold Keys at hk
    rw [List.map_cons, List.nodup_cons] at hk
    rw [zbt]
    rcases List.mem_cons.1 h with rfl | h
    · rw [if_pos rfl]
    · rw [if_neg fun e' => hk.1 (by rw [← e']; exact List.mem_map.2 ⟨e, h, rfl⟩)]
      exact ih hk.2 h
theorem zdp {sz : List Nat} {ll : List (List Nat)} (ok : PlOk sz ll) {r : List Nat} (hr : r ∈ ll) : ∀ j x, sz[j]? = some x → r.getD j 0 < x := fun j x hj => by
  obtain ⟨h1, h2⟩ := ok r hr
  have hjl : j < r.length := by rw [h1]; exact (List.getElem?_eq_some_iff.1 hj).1
  have hg := List.getElem?_eq_getElem hjl
  rw [List.getD_eq_getElem?_getD, hg, Option.getD_some]
  exact h2 j _ x hg hj
theorem num_q4 {sz r : List Nat} (hl : sz.length ≤ 4) : numL sz (lq (q4 r)) = numL sz r := numL_congr fun j hj => lq_q4 r (by omega)
theorem q4_of_num {sz : List Nat} {ll : List (List Nat)} (ok : PlOk sz ll) (hl : sz.length ≤ 4) {r s : List Nat} (hr : r ∈ ll) (hs : s ∈ ll) (h : numL sz r = numL sz s) : q4 r = q4 s := by
  have hj := numL_inj (zdp ok hr) (zdp ok hs) h
  have key : ∀ j, r.getD j 0 = s.getD j 0 := fun j => by
    by_cases hlt : j < sz.length
    · exact hj j hlt
    · rw [List.getD_eq_getElem?_getD, List.getD_eq_getElem?_getD, List.getElem?_eq_none (by rw [(ok r hr).1]; omega), List.getElem?_eq_none (by rw [(ok s hs).1]; omega)]
  unfold q4
  rw [key 0, key 1, key 2, key 3]
theorem count_num {sz : List Nat} {ll : List (List Nat)} (ok : PlOk sz ll) (hl : sz.length ≤ 4) {r : List Nat} (hr : r ∈ ll) : (ll.map (numL sz)).count (numL sz r) = (ll.map q4).count (q4 r) := by
  rw [List.count, List.count, List.countP_map, List.countP_map]
  refine List.countP_congr fun s hs => ?_
  simp only [Function.comp_apply, beq_iff_eq]
  exact ⟨fun h => q4_of_num ok hl hs hr h, fun h => by rw [← num_q4 hl, h, num_q4 hl]⟩
theorem num_nodup {sz : List Nat} {ll : List (List Nat)} (ok : PlOk sz ll) (hl : sz.length ≤ 4) {es : List (Q4 × Nat)} (hm : ∀ e ∈ es, e.1 ∈ ll.map q4) (hk : (es.map (·.1)).Nodup) : (es.map fun e => numL sz (lq e.1)).Nodup := by
  induction es with
  | nil => simp
  | cons a l ih =>
    rw [List.map_cons, List.nodup_cons] at hk ⊢
    refine ⟨fun h => hk.1 ?_, ih (fun e he => hm e (by simp [he])) hk.2⟩
    obtain ⟨e, he, heq⟩ := List.mem_map.1 h
    obtain ⟨r, hr, hra⟩ := List.mem_map.1 (hm a (by simp))
    obtain ⟨s, hs, hsa⟩ := List.mem_map.1 (hm e (by simp [he]))
    rw [← hra, ← hsa, num_q4 hl, num_q4 hl] at heq
    exact List.mem_map.2 ⟨e, he, by rw [← hra, ← hsa]; exact q4_of_num ok hl hs hr heq⟩
theorem hist_end {sz : List Nat} {ll : List (List Nat)} (ok : PlOk sz ll) (hl : sz.length ≤ 4) {es : List (Q4 × Nat)} (hm : ∀ e, e ∈ es ↔ e ∈ zdc (ll.map q4)) (hk : (es.map (·.1)).Nodup) : dsOf sz ll.length es = zaz sz ll := by
  have hmem : ∀ e ∈ es, e.1 ∈ ll.map q4 := fun e he => (tally_mem _ _).1 (List.mem_map.2 ⟨e, (hm e).1 he, rfl⟩)
  have hnd := num_nodup ok hl hmem hk
  refine List.ext_getElem? fun i => ?_
  by_cases hi : i < prd sz
  · have hh : (zaz sz ll)[i]? = some (mkRat ((ll.map (numL sz)).count i : Nat) ll.length) := by
      unfold zaz
      rw [List.getElem?_map, List.getElem?_range hi]
      rfl
    rw [hh]
    by_cases hx : i ∈ ll.map (numL sz)
    · obtain ⟨r, hr, rfl⟩ := List.mem_map.1 hx
      have h1 : q4 r ∈ (zdc (ll.map q4)).map (·.1) := (tally_mem _ _).2 (List.mem_map.2 ⟨r, hr, rfl⟩)
      obtain ⟨e, he, heq⟩ := List.mem_map.1 h1
      have h2 := cnt_mem (tally_keys _) he
      rw [cnt_tally, heq] at h2
      have h3 := dsOf_some (n := ll.length) hnd ((hm e).2 he) (by rw [heq, num_q4 hl]; exact hi)
      rw [heq, num_q4 hl] at h3
      rw [h3, count_num ok hl hr, h2]
    · rw [dsOf_none hi fun e he => fun h => hx ?_, List.count_eq_zero.2 hx]
      · simp
      · obtain ⟨r, hr, hra⟩ := List.mem_map.1 (hmem e he)
        rw [← h, ← hra, num_q4 hl]
        exact List.mem_map.2 ⟨r, hr, rfl⟩
  · rw [List.getElem?_eq_none (by rw [dsOf_len]; omega), List.getElem?_eq_none (by simp [zaz]; omega)]
end Go.Proofs.YtijjjbgnpfjpmaaGreatDoor
namespace Go.Proofs.YtijjjbgnpfjpmaaGreatDoor
open Go.RowKit
set_option linter.unusedVariables false
set_option maxHeartbeats 400000 in
theorem cmp_s {w : World} {va vb : Value} {p q : Rat} {s t : Int} (ha : IsF w va p) (hb : IsF w vb q) (hs : s = sgnQ p) (ht : t = sgnQ q) (hst : s ≠ t ∨ s = 0) : Calls Tryz.prog 173 #[va, vb] w fun e w' => e = .returned (.int .i64 (cmpQ p q)) ∧ Below w.heap.size w w' := by
  obtain ⟨Ax, mx, cx, Bx, nx, bx, rfl, hx1, hx2⟩ := ha
  obtain ⟨Ay, my, cy, By, ny, by', rfl, hy1, hy2⟩ := hb
  have X1 := Lib.hid hx1
  have X2 := Lib.hid hx2
  have Y1 := Lib.hid hy1
  have Y2 := Lib.hid hy2
  have HX : Hid (IsF w (.agg #[.bool (decide (p.num < 0)), .slice Ax mx cx, .slice Bx nx bx]) p) := ⟨Ax, mx, cx, Bx, nx, bx, rfl, hx1, hx2⟩
  have HY : Hid (IsF w (.agg #[.bool (decide (q.num < 0)), .slice Ay my cy, .slice By ny by']) q) := ⟨Ay, my, cy, By, ny, by', rfl, hy1, hy2⟩
  obtain ⟨sx, hsx⟩ : ∃ s, s = decide (p.num < 0) := ⟨_, rfl⟩
  obtain ⟨sy, hsy⟩ : ∃ s, s = decide (q.num < 0) := ⟨_, rfl⟩
  rw [← hsx] at HX ⊢
  rw [← hsy] at HY ⊢
  have SX := Lib.hid hsx
  have SY := Lib.hid hsy
  clear hsx hsy
  have HR : Hid (min (max (s - t) (-1)) 1 = cmpQ p q) := by
    unfold Hid
    by_cases h : s = t
    · have h0 : s = 0 := by rcases hst with h1 | h1; exact (h1 h).elim; exact h1
      rw [zfq (by rw [sgnQ_zero.1 (hs.symm.trans h0), sgnQ_zero.1 (ht.symm.trans (h.symm.trans h0))]), ← h, h0]
      rfl
    · rw [order_ne (by rw [← hs, ← ht]; exact h), ← hs, ← ht]
      rcases zcz p with h1 | h1 | h1 <;> rcases zcz q with h2 | h2 | h2 <;> rw [← hs] at h1 <;> rw [← ht] at h2 <;> subst h1 <;> subst h2 <;> first | rfl | exact (h rfl).elim
  have HSS : Hid (s = sgnQ p ∧ t = sgnQ q) := ⟨hs, ht⟩
  have h5 : s = -1 ∨ s = 0 ∨ s = 1 := by rw [hs]; exact zcz p
  have h6 : t = -1 ∨ t = 0 ∨ t = 1 := by rw [ht]; exact zcz q
  clear hs ht
  obtain ⟨w0, hw0, hb0, rX, rY, Hz⟩ := zbj w #[.bool sx, .slice Ax mx cx, .slice Bx nx bx] #[.bool sy, .slice Ay my cy, .slice By ny by'] 150 150
  obtain ⟨x0, x1, x2⟩ := zab rX
  obtain ⟨y0, y1, y2⟩ := zab rY
  have HB := Lib.hid hb0
  clear hx1 hx2 hy1 hy2 hb0 rX rY
  rcases h5 with rfl | rfl | rfl <;> rcases h6 with rfl | rfl | rfl
  all_goals (try (exfalso; omega))
  all_goals
    clear hst
    go_enter Tryz.func173, Tryz.ntmps173
    go_wp2_with fail
    clear hw0
    have HS := hs6 x0 x1 x2 y0 y1 y2
    have D1 := Lib.hid fun W (hW : Below w0.heap.size w0 W) => sign_f (uI W HX (zaa HB.out hW))
    have D2 := Lib.hid fun W (hW : Below w0.heap.size w0 W) => sign_f (uI W HY (zaa HB.out hW))
    rw [← HSS.out.1] at D1
    rw [← HSS.out.2] at D2
    go_region_held3 (SH.mk _ HS).s
      (exact HS.out _ bel)
      (first
        | (go_at_call 117; (with_reducible refine Calls.mono (D1.out _ bel) ?_); rintro e w1 ⟨rfl, hb1⟩; )
        | (go_at_call 117; (with_reducible refine Calls.mono (D2.out _ bel) ?_); rintro e w2 ⟨rfl, hb2⟩; ))
    go_wp2_with fail
    go_ret
    exact ⟨zae (HR.out.symm.trans rfl).symm, zaa HB.out (bW w0 w2).out⟩
set_option maxRecDepth 100000 in
set_option maxHeartbeats 1000000 in
theorem cmp_t {w : World} {va vb : Value} {p q : Rat} {s c : Int} {b : Bool} (ha : IsF w va p) (hb : IsF w vb q) (fp : Fz p) (fq : Fz q) (hs : s = sgnQ p) (ht : s = sgnQ q) (hs0 : s = 1 ∧ b = false ∨ s = -1 ∧ b = true) (hc : c = sgn (p.num.natAbs * q.den) (q.num.natAbs * p.den)) : Calls Tryz.prog 173 #[va, vb] w fun e w' => e = .returned (.int .i64 (s * c)) ∧ Below w.heap.size w w' := by
  obtain ⟨Ax, mx, cx, Bx, nx, bx, rfl, hx1, hx2⟩ := ha
  obtain ⟨Ay, my, cy, By, ny, by', rfl, hy1, hy2⟩ := hb
  have X1 := Lib.hid hx1
  have X2 := Lib.hid hx2
  have Y1 := Lib.hid hy1
  have Y2 := Lib.hid hy2
  have HX : Hid (IsF w (.agg #[.bool (decide (p.num < 0)), .slice Ax mx cx, .slice Bx nx bx]) p) := ⟨Ax, mx, cx, Bx, nx, bx, rfl, hx1, hx2⟩
  have HY : Hid (IsF w (.agg #[.bool (decide (q.num < 0)), .slice Ay my cy, .slice By ny by']) q) := ⟨Ay, my, cy, By, ny, by', rfl, hy1, hy2⟩
  obtain ⟨sx, hsx⟩ : ∃ s, s = decide (p.num < 0) := ⟨_, rfl⟩
  obtain ⟨sy, hsy⟩ : ∃ s, s = decide (q.num < 0) := ⟨_, rfl⟩
  rw [← hsx] at HX ⊢
  rw [← hsy] at HY ⊢
  have SX := Lib.hid hsx
  have SY := Lib.hid hsy
  clear hsx hsy
  have HSS : Hid (s = sgnQ p ∧ s = sgnQ q) := ⟨hs, ht⟩
  have FP := Lib.hid fp
  have FQ := Lib.hid fq
  have HC := Lib.hid hc
  have hc1 : -1 ≤ c ∧ c ≤ 1 := by
    rw [hc]; unfold sgn
    split
    · omega
    · split <;> omega
  obtain ⟨c5, c6⟩ := hc1
  have hb1 : sx = b := by
    rw [SX.out, num_lt]
    rcases hs0 with ⟨h1, h2⟩ | ⟨h1, h2⟩
    · rw [h2, decide_eq_false_iff_not]
      intro h3
      have := sgnQ_neg.2 h3
      omega
    · rw [h2, decide_eq_true_iff]
      exact sgnQ_neg.1 (by omega)
  subst hb1
  clear hs ht hc
  obtain ⟨w0, hw0, hb0, rX, rY, Hz⟩ := zbj w #[.bool sx, .slice Ax mx cx, .slice Bx nx bx] #[.bool sy, .slice Ay my cy, .slice By ny by'] 150 150
  obtain ⟨x0, x1, x2⟩ := zab rX
  obtain ⟨y0, y1, y2⟩ := zab rY
  have HB := Lib.hid hb0
  clear hx1 hx2 hy1 hy2 hb0 rX rY fp fq
  rcases hs0 with ⟨rfl, rfl⟩ | ⟨rfl, rfl⟩
  all_goals
    go_enter Tryz.func173, Tryz.ntmps173
    go_wp2_with fail
    clear hw0
    have HS := hs6 x0 x1 x2 y0 y1 y2
    have D1 := Lib.hid fun W (hW : Below w0.heap.size w0 W) => sign_f (uI W HX (zaa HB.out hW))
    have D2 := Lib.hid fun W (hW : Below w0.heap.size w0 W) => sign_f (uI W HY (zaa HB.out hW))
    rw [← HSS.out.1] at D1
    rw [← HSS.out.2] at D2
    go_region_held3 (SH.mk _ HS).s
      (exact HS.out _ bel)
      (first
        | (go_at_call 117; (with_reducible refine Calls.mono (D1.out _ bel) ?_); rintro e w1 ⟨rfl, hb1⟩; )
        | (go_at_call 117; (with_reducible refine Calls.mono (D2.out _ bel) ?_); rintro e w2 ⟨rfl, hb2⟩; ))
    go_wp2_with fail
    have D3 := Lib.hid fun W (hW : Below w2.heap.size w2 W) => zci (uI W HY (zaa HB.out (zaa (bW w0 w2).out hW))) rfl
    have D5 := Lib.hid fun W (hW : Below w2.heap.size w2 W) => zci (uI W HX (zaa HB.out (zaa (bW w0 w2).out hW))) rfl
    go_region_held3 (SH.mk _ HS).s
      (exact HS.out _ bel)
      (first
        | (go_at_call 209; (with_reducible refine Calls.mono (D3.out _ bel) ?_); rintro e w3 ⟨⟨v3, rfl, hv3⟩, hb3⟩; have V3 := Lib.hid hv3; obtain ⟨P3, k3, rfl⟩ := hv3.sl; have D4 := Lib.hid fun W (hW : Below w3.heap.size w3 W) => zds (uW W X1 (zaa HB.out (zaa (bW w0 w3).out hW))) (V3.out.next hW) (zbl FP.out.n) (zbl FQ.out.d) rfl)
        | (go_at_call 214; (with_reducible refine Calls.mono (D4.out _ bel) ?_); rintro e w4 ⟨⟨v4, rfl, hv4⟩, hb4⟩; have V4 := Lib.hid hv4; obtain ⟨P4, k4, rfl⟩ := hv4.sl)
        | (go_at_call 209; (with_reducible refine Calls.mono (D5.out _ bel) ?_); rintro e w5 ⟨⟨v5, rfl, hv5⟩, hb5⟩; have V5 := Lib.hid hv5; obtain ⟨P5, k5, rfl⟩ := hv5.sl; have D6 := Lib.hid fun W (hW : Below w5.heap.size w5 W) => zds (uW W Y1 (zaa HB.out (zaa (bW w0 w5).out hW))) (V5.out.next hW) (zbl FQ.out.n) (zbl FP.out.d) rfl)
        | (go_at_call 214; (with_reducible refine Calls.mono (D6.out _ bel) ?_); rintro e w6 ⟨⟨v6, rfl, hv6⟩, hb6⟩; have V6 := Lib.hid hv6; obtain ⟨P6, k6, rfl⟩ := hv6.sl; have D7 := Lib.hid fun W (hW : Below w6.heap.size w6 W) => zbu (V4.out.next (zaa (bW w4 w6).out hW)) (V6.out.next hW) c HC.out)
        | (go_at_call 213; (with_reducible refine Calls.mono (D7.out _ bel) ?_); rintro e w7 ⟨rfl, hd⟩; have hb7 : Below w6.heap.size w6 w7 := hd.below _; clear hd))
    have cs := (HS.out _ (bW w0 w7).out).1
    go_wp2_with fail
    go_ret
    exact ⟨zae (by omega), zaa HB.out (bW w0 w7).out⟩
theorem cmp_f {w : World} {va vb : Value} {p q : Rat} (ha : IsF w va p) (hb : IsF w vb q) (fp : Fz p) (fq : Fz q) : Calls Tryz.prog 173 #[va, vb] w fun e w' => e = .returned (.int .i64 (cmpQ p q)) ∧ Below w.heap.size w w' := by
  by_cases h : sgnQ p ≠ sgnQ q ∨ sgnQ p = 0
  · exact cmp_s ha hb rfl rfl h
  · have h1 : sgnQ p = sgnQ q := by
      rcases Classical.em (sgnQ p = sgnQ q) with h2 | h2
      · exact h2
      · exact (h (.inl h2)).elim
    have h2 := order_val p q sgn (fun x y => ⟨zdl, sgn_eq, zfj⟩) h1
    rw [← h2]
    rcases zcz p with h3 | h3 | h3
    · exact cmp_t (b := true) ha hb fp fq rfl h1 (.inr ⟨h3, rfl⟩) rfl
    · exact (h (.inr h3)).elim
    · exact cmp_t (b := false) ha hb fp fq rfl h1 (.inl ⟨h3, rfl⟩) rfl
end Go.Proofs.YtijjjbgnpfjpmaaGreatDoor
namespace Go.Proofs.YtijjjbgnpfjpmaaGreatDoor
open Go.RowKit Go.Shelf
attribute [local go_sem] Oper.semAt_some
set_option linter.unusedVariables false
def zdv (g : Option Rat) (x : Rat) : Option Rat := match g with
  | none => some x
  | some y => if y < x then some x else some y
def grK (f : Nat → Nat → Rat) (sz : List Nat) (k : Nat) : Option Rat := ((dv 0 sz).take k).foldl (fun g pt => zdv g (f pt.1 pt.2)) none
theorem dv_find (sz : List Nat) {k : Nat} (hk : k < sz.sum) : ∃ p t x, sz[p]? = some x ∧ t < x ∧ k = (sz.take p).sum + t := by
  induction sz generalizing k with
  | nil => simp at hk
  | cons y l ih =>
    by_cases h : k < y
    · exact ⟨0, k, y, rfl, h, by simp⟩
    · rw [List.sum_cons] at hk
      obtain ⟨p, t, x, h1, h2, h3⟩ := ih (k := k - y) (by omega)
      exact ⟨p + 1, t, x, by simpa using h1, h2, by rw [List.take_succ_cons, List.sum_cons]; omega⟩
theorem grK_succ {f : Nat → Nat → Rat} {sz : List Nat} {p t x : Nat} (hx : sz[p]? = some x) (ht : t < x) : grK f sz ((sz.take p).sum + t + 1) = zdv (grK f sz ((sz.take p).sum + t)) (f p t) := by
  have h := dv_at 0 hx ht
  have hk : (sz.take p).sum + t < (dv 0 sz).length := (List.getElem?_eq_some_iff.1 h).1
  have he := (List.getElem?_eq_some_iff.1 h).2
  unfold grK
  rw [List.take_succ_eq_append_getElem hk, List.foldl_append, he]
  simp
theorem foldl_gstep {f : Nat → Nat → Rat} {l : List (Nat × Nat)} {g : Option Rat} (hl : ∀ pt ∈ l, Fz (f pt.1 pt.2)) (hg : ∀ y, g = some y → Fz y) : ∀ y, l.foldl (fun g pt => zdv g (f pt.1 pt.2)) g = some y → Fz y := by
  induction l generalizing g with
  | nil => exact hg
  | cons pt l ih =>
    refine ih (fun q hq => hl q (List.mem_cons_of_mem _ hq)) fun y hy => ?_
    have h1 := hl pt (List.mem_cons_self ..)
    cases g with
    | none => cases hy; exact h1
    | some z =>
      simp only [zdv] at hy
      split at hy <;> cases hy
      · exact h1
      · exact hg _ rfl
theorem dv_mem {n : Nat} {sz : List Nat} {pt : Nat × Nat} (h : pt ∈ dv n sz) : ∃ p x, pt.1 = n + p ∧ sz[p]? = some x ∧ pt.2 < x := by
  induction sz generalizing n with
  | nil => cases h
  | cons y l ih =>
    rw [dv] at h
    rcases List.mem_append.1 h with h | h
    · obtain ⟨t, ht, rfl⟩ := List.mem_map.1 h
      exact ⟨0, y, rfl, rfl, List.mem_range.1 ht⟩
    · obtain ⟨p, x, h1, h2, h3⟩ := ih h
      exact ⟨p + 1, x, by omega, h2, h3⟩
theorem grK_fz {f : Nat → Nat → Rat} {sz : List Nat} (hf : ∀ p x t, sz[p]? = some x → t < x → Fz (f p t)) (k : Nat) : ∀ y, grK f sz k = some y → Fz y :=
  foldl_gstep (fun pt h => by obtain ⟨p, x, h1, h2, h3⟩ := dv_mem (List.mem_of_mem_take h); rw [h1, Nat.zero_add]; exact hf p x _ h2 h3) (fun _ h => by cases h)
def slackQ (sz : List Nat) (ps : List (List Rat)) (d : List Rat) : Rat := (grK (zcv sz ps d) sz sz.sum).getD 0
def SlI (sz : List Nat) (ps : List (List Rat)) (d : List Rat) (k B g : Nat) (fs : List Value) (vd : Value) (W : World) : Prop :=
  Row W B 137 fs ∧ Row W (B + 1) 146 [vd] ∧ Row W (B + 1 + 1) 150 [.bool false, .slice none 0 0, .slice none 0 0] ∧ Row W (g + 1) 4 [.bool (grK (zcv sz ps d) sz k).isNone] ∧
    ∃ x y z, Row W g 150 [x, y, z] ∧ IsF W (.agg #[x, y, z]) ((grK (zcv sz ps d) sz k).getD 0)
theorem keepC {X Y : World} {row : Option Nat} (hg : X.grownBy Y row) (hr : ∀ r, row = some r → ∃ o : Obj, X.heap[r]? = some o ∧ o.isCells = false) : ∀ (b : Nat) cs t s, X.heap[b]? = some (Obj.cells cs t s) → Y.heap[b]? = X.heap[b]? := fun b cs t s hb => by
  refine hg.block b (zag hb) fun e => ?_
  obtain ⟨o, ho, hc⟩ := hr b e.symm
  rw [hb] at ho
  cases ho
  cases hc
theorem Row.kc {X Y : World} {g : Nat} {t : TypeId} {xs : List Value} (h : Row X g t xs) (hk : ∀ (b : Nat) cs t s, X.heap[b]? = some (Obj.cells cs t s) → Y.heap[b]? = X.heap[b]?) : Row Y g t xs := (hk g _ _ _ h).trans h
theorem KF.kc {X Y : World} (hs : X.heap.size ≤ Y.heap.size) (hk : ∀ (b : Nat) cs t s, X.heap[b]? = some (Obj.cells cs t s) → Y.heap[b]? = X.heap[b]?) : KF X Y :=
  ⟨⟨⟨hs, fun b cs s hb => hk b cs _ s hb⟩, fun b cs s hb => hk b cs _ s hb⟩, fun b cs s hb => hk b cs _ s hb⟩
theorem SlI.kc {sz : List Nat} {ps : List (List Rat)} {d : List Rat} {k B g : Nat} {fs : List Value} {vd : Value} {X Y : World} (h : SlI sz ps d k B g fs vd X) (hs : X.heap.size ≤ Y.heap.size) (hk : ∀ (b : Nat) cs t s, X.heap[b]? = some (Obj.cells cs t s) → Y.heap[b]? = X.heap[b]?) : SlI sz ps d k B g fs vd Y := by
  obtain ⟨h1, h2, h3, h4, x, y, z, h5, h6⟩ := h
  exact ⟨h1.kc hk, h2.kc hk, h3.kc hk, h4.kc hk, x, y, z, h5.kc hk, h6.ku (KF.kc hs hk).1.1⟩
theorem results_frac {fn : Func} {slot : Tmp} {tmps : Array Value} {w : World} {g : Nat} {x y z : Value} (hr : fn.results = #[.cell slot 150]) (ha : tmps.getD slot undef = .pointer (some ⟨g, 0, none⟩))
    (h : Row w g 150 [x, y, z]) : (results fn tmps).run Tryz.prog w = .ok (.agg #[x, y, z]) w := by
  obtain ⟨h0, h1, h2⟩ := zab h
  have ha' : tmps[slot]?.getD undef = .pointer (some ⟨g, 0, none⟩) := by simpa using ha
  simp [results, hr, ha', asAddr, go_sem, h0, h1, h2]
theorem heapF3 (w : World) (g : Nat) (a b c : Value) {k : Nat} (h : k ≠ g) : (put3 w g a b c).heap[k]? = w.heap[k]? := by
  rw [put3, Below.heap_setCell _ _ _ _ h, Below.heap_setCell _ _ _ _ h, Below.heap_setCell _ _ _ _ h]
set_option maxRecDepth 100000 in
set_option maxHeartbeats 4000000 in
theorem slack_f {w : World} {v vd : Value} {sz : List Nat} {ps : List (List Rat)} {d : List Rat} (h : IsForm w v sz ps) (hd : IsFs w vd d) (ok : NFok sz ps) (g : GainOk sz ps d) (hg : ∀ p x t, sz[p]? = some x → t < x → Fz (zcv sz ps d p t)) : Calls Tryz.prog 102 #[v, vd] w (RetF w (slackQ sz ps d)) := by
  have H := Lib.hid h
  have HD := Lib.hid hd
  have OK := Lib.hid ok
  have GO := Lib.hid g
  have HG := Lib.hid hg
  obtain ⟨A, a, B, b, S, s, P, c, rfl, h1, _⟩ := h
  obtain ⟨D, e, rfl, _⟩ := hd.hd
  have H1 := Lib.hid h1
  obtain ⟨M, hM⟩ : ∃ M : Int, M = ((prd sz : Nat) : Int) := ⟨_, rfl⟩
  rw [← hM] at H ⊢
  obtain ⟨w0, hw0, hb0, rX, rD, rZ, Hz⟩ := zde w #[.slice A sz.length a, .slice B ps.length b, .slice S sz.length s, .int .i64 M, .slice P ps.length c] #[.slice D d.length e] #[.bool false, .slice none 0 0, .slice none 0 0] 137 146 150
  have HB0 := Lib.hid hb0
  have RX := Lib.hid rX
  have RD := Lib.hid rD
  have RZ := Lib.hid rZ
  obtain ⟨w1, hw1, hb1, rG, rF, Hz1⟩ := zbj w0 #[.bool false, .slice none 0 0, .slice none 0 0] #[.bool false] 150 4
  have HB1 := Lib.hid hb1
  have RG := Lib.hid rG
  have RF := Lib.hid rF
  obtain ⟨g0, g1, g2⟩ := zab rG
  obtain ⟨i0, i1, i2⟩ := zan rG
  have f0 := rF.cell 0
  have f1 := rF.frozen 0
  simp at f0
  obtain ⟨w2, hw2⟩ : ∃ x, (((((w1.setCell ⟨w0.heap.size, 0, none⟩ (.bool false)).setCell ⟨w0.heap.size, 1, none⟩ (.slice none 0 0)).setCell ⟨w0.heap.size, 2, none⟩ (.slice none 0 0)).setCell ⟨w0.heap.size + 1, 0, none⟩ (.bool true))) = x := ⟨_, rfl⟩
  have HB2 : Hid (Below w0.heap.size w0 w2) := by rw [← hw2]; exact (zad hb1 (Nat.le_refl _) _ _ _).setCell (p := ⟨w0.heap.size + 1, 0, none⟩) (by show w0.heap.size ≤ w0.heap.size + 1; omega) _
  have RG2 : Hid (Row w2 w0.heap.size 150 [.bool false, .slice none 0 0, .slice none 0 0]) := by rw [← hw2]; exact (rG.put3 _ _ _).far (p := ⟨w0.heap.size + 1, 0, none⟩) (by show w0.heap.size ≠ w0.heap.size + 1; omega) _
  have RF2 : Hid (Row w2 (w0.heap.size + 1) 4 [.bool true]) := by rw [← hw2]; exact (rF.far3 (by omega) _ _ _).set_ 0 _
  have RX2 := Lib.hid (RX.out.next HB2.out)
  have HW2 : Hid (w0.heap.size + 1 < w2.heap.size) := RF2.out.lt
  obtain ⟨y0, y1, y2, y3, y4⟩ := row5 RX2.out
  clear h1 hd ok g hg hM hb0 hb1 rX rD rZ rG rF
  refine (callsIn_wide (n := 3)).1 ?_
  refine callsIn_of_wp_marks Tryz.func102 rfl trivial ?_ rfl
  simp only [Tryz.ntmps102, List.size_toArray, List.length_cons, List.length_nil, Nat.reduceAdd, Nat.reduceSub, Array.replicate_succ, Array.replicate_zero, List.push_toArray, List.append_toArray, List.nil_append, List.cons_append]
  refine wpIn_wide.2 ?_
  go_wp2_with fail
  clear hw0 hw1 hw2 g0 g1 g2 i0 i1 i2 f0 f1 y0 y1 y2 y3 y4
  refine (dev_n _ _ _ _ _).mono ?_
  rintro e w3 ⟨rfl, hc3, hb3⟩
  obtain ⟨Bx, hBx⟩ : ∃ x, x = w2.heap.size := ⟨_, rfl⟩
  rw [← hBx] at hc3 ⊢
  have HBx : Hid (w2.heap.size ≤ Bx) := by rw [hBx]; exact Nat.le_refl _
  have HB3 := Lib.hid (zaa HB0.out (zaa HB2.out hb3))
  have HB3' := Lib.hid (zaa HB2.out hb3)
  have RX3 := Lib.hid (RX2.out.next hb3)
  have RD3 := Lib.hid (RD.out.next HB3'.out)
  have RZ3 := Lib.hid (RZ.out.next HB3'.out)
  have RG3 := Lib.hid (RG2.out.next hb3)
  have RF3 := Lib.hid (RF2.out.next hb3)
  have HC3 := Lib.hid hc3
  clear hc3 hb3 hBx RG RF RX2 RG2 RF2 RX RD RZ
  go_wp2_with fail
  refine (wpIn_wide (n := 3)).1 ?_
  refine wpIn_rangeFunc_D (σ := Unit) rfl og (gf := 212) (lb := #[.pointer (some ⟨Bx, 0, none⟩)]) rfl trivial (enters_of Tryz.func212 kr rfl)
    (dev_seq 2 og (w := w) (B := Bx) H1.out OK.out.sum OK.out.l4) HB3.out (fun k s vs hv => by obtain ⟨p, t, x, _, _, _, rfl⟩ := hv; rfl)
    (fun p W => Below w.heap.size w W ∧ Row W Bx 134 [.slice A sz.length a, .slice B ps.length b, .slice S sz.length s, .int .i64 M] ∧ SlI sz ps d p.1 w.heap.size w0.heap.size [.slice A sz.length a, .slice B ps.length b, .slice S sz.length s, .int .i64 M, .slice P ps.length c] (.slice D d.length e) W) ?hI (fun k s W h => ⟨h.1, h.2.1.cell 0⟩) ?hskip ⟨(), HB3.out, HC3.out, RX3.out, RD3.out, RZ3.out, RF3.out, ⟨_, _, _, RG3.out, zcw⟩⟩
    (fun vs => { tmps := #[.agg #[.slice A sz.length a, .slice B ps.length b, .slice S sz.length s, .int .i64 M, .slice P ps.length c], .slice D d.length e, .pointer (some ⟨w.heap.size, 0, none⟩), .pointer (some ⟨w.heap.size + 1, 0, none⟩), .pointer (some ⟨w.heap.size + 1 + 1, 0, none⟩), .pointer (some ⟨w0.heap.size, 0, none⟩), .pointer (some ⟨w0.heap.size + 1, 0, none⟩), vs.getD 0 undef, vs.getD 1 undef, undef, .agg #[.bool false, .slice none 0 0, .slice none 0 0], .pointer (some ⟨w.heap.size, 0, none⟩), .agg #[.slice A sz.length a, .slice B ps.length b, .slice S sz.length s, .int .i64 M], .func (.func 212) #[] #[.pointer (some ⟨Bx, 0, none⟩)], vs.getD 0 undef, vs.getD 1 undef, undef, undef, undef, undef, undef, undef, undef, undef, undef, undef, undef, undef, undef, undef], defers := [] }) ?assign ?body ?done
  case hI =>
    rintro p X Y row ⟨h1, h2, h3⟩ hg hr
    have hk := keepC hg fun r e => (hr r e).2
    exact ⟨h1.grown hg h1.size (fun x e => by have := (hr x e).1; have := HB3.out.size; omega), h2.kc hk, h3.kc hg.size hk⟩
  case hskip =>
    rintro k s W h hk hv
    exfalso
    obtain ⟨pt, hpt⟩ : ∃ pt, (dv 0 sz)[k]? = some pt := ⟨_, List.getElem?_eq_getElem (by rw [dv_len]; exact hk)⟩
    obtain ⟨p, t, x, hx, ht, hk2⟩ := dv_find sz hk
    exact hv _ ⟨p, t, x, hx, ht, hk2, rfl⟩
  case assign =>
    rintro l k s vs W K ⟨p, t, x, _, _, _, rfl⟩ hK
    gi_wp2
    exact hK
  case body =>
    rintro l k _ vs W hlW hrec ⟨hb, hcB, hF, hDd, hZ, hFl, x0, y0, z0, hG, hq⟩ hkN ⟨p, t, x, hx, ht, hk, rfl⟩
    have HGn : Hid (grK (zcv sz ps d) sz (k + 1) = zdv (grK (zcv sz ps d) sz k) (zcv sz ps d p t)) := by rw [Hid, hk]; exact grK_succ hx ht
    obtain ⟨G0, hG0⟩ : ∃ G, G = grK (zcv sz ps d) sz k := ⟨_, rfl⟩
    rw [← hG0] at HGn hFl hq
    have HGz : Hid (∀ y, G0 = some y → Fz y) := by rw [hG0]; exact grK_fz HG.out k
    have HQ := Lib.hid hq
    have HXT := Lib.hid (And.intro hx ht)
    have HBW := Lib.hid hb
    have RF := Lib.hid hF
    have RDd := Lib.hid hDd
    have RZ := Lib.hid hZ
    have RFl := Lib.hid hFl
    have RG := Lib.hid hG
    have RB := Lib.hid hcB
    have HFz := Lib.hid (HG.out p x t hx ht)
    obtain ⟨c0, c1, c2, c3, c4⟩ := row5 hF
    have d0 := hDd.cell 0
    simp at d0
    obtain ⟨sx, xA, xm, xc, xB, xn, xd, rfl, rfl, rfl⟩ := frac3 hq
    obtain ⟨gq, hgq⟩ : ∃ q, q = zcv sz ps d p t := ⟨_, rfl⟩
    have hgc := gain_f (H.out.next hb) (HD.out.next hb) OK.out GO.out hx ht
    rw [← hgq] at hgc HFz HGn
    have HGC := Lib.hid hgc
    have hgW : w0.heap.size + 1 < w3.heap.size := RF3.out.lt
    have hlW2 : w3.heap.size ≤ W.heap.size := by have := (Array.getElem?_eq_some_iff.1 hrec.choose_spec).1; omega
    clear hb hcB hF hDd hZ hFl hG hq hx ht hk hG0 hrec hgc hgq
    gi_wp2
    clear c0 c1 c2 c3 c4 d0
    refine ⟨trivial, CallsIn.inRound _ (callsIn_wide.2 (HGC.out.mono ?_))⟩
    rintro e W1 ⟨⟨v1, rfl, hv1⟩, hb1⟩
    have V1 := Lib.hid hv1
    obtain ⟨s1, P1, m1, k1, S1, n1, d1, hv2⟩ : ∃ s A m c B n d, v1 = .agg #[.bool s, .slice A m c, .slice B n d] := by
      obtain ⟨A5, m5, c5, B5, n5, d5, h5, _, _⟩ := hv1
      exact ⟨_, _, _, _, _, _, _, h5⟩
    subst hv2
    obtain ⟨W2, hW2, hb2, rB, Hz2⟩ := zao W1 #[.bool false, .slice none 0 0, .slice none 0 0] 150
    obtain ⟨W3, hW3⟩ : ∃ x, ((W2.setCell ⟨W1.heap.size, 0, none⟩ (.bool s1)).setCell ⟨W1.heap.size, 1, none⟩ (.slice P1 m1 k1)).setCell ⟨W1.heap.size, 2, none⟩ (.slice S1 n1 d1) = x := ⟨_, rfl⟩
    have hb13 : Below W1.heap.size W1 W3 := by rw [← hW3]; exact zad hb2 (Nat.le_refl _) _ _ _
    have RXr : Hid (Row W3 W1.heap.size 150 [.bool s1, .slice P1 m1 k1, .slice S1 n1 d1]) := by rw [← hW3]; exact rB.put3 _ _ _
    have HBr := Lib.hid (zaa hb1 hb13)
    have RF' := Lib.hid (RF.out.next HBr.out)
    have RDd' := Lib.hid (RDd.out.next HBr.out)
    have RZ' := Lib.hid (RZ.out.next HBr.out)
    have RFl' := Lib.hid (RFl.out.next HBr.out)
    have RG' := Lib.hid (RG.out.next HBr.out)
    have RB' := Lib.hid (RB.out.next HBr.out)
    have V3 := Lib.hid (V1.out.next hb13)
    have HQ3 := Lib.hid (HQ.out.next HBr.out)
    obtain ⟨b0, b1, b2⟩ := zab rB
    obtain ⟨i0, i1, i2⟩ := zan rB
    obtain ⟨x0, x1, x2⟩ := zab RXr.out
    obtain ⟨e0, e1, e2⟩ := zab RG'.out
    obtain ⟨j0, j1, j2⟩ := zan RG'.out
    have f0 := RFl'.out.cell 0
    have f1 := RFl'.out.frozen 0
    simp at f0
    have hBW3 := Lib.hid (zaa HBW.out HBr.out)
    have hgW3 : w0.heap.size + 1 < W3.heap.size := RFl'.out.lt
    clear hv1 hb1 hb2 rB hb13
    have hkeep : ∀ W4 : World, Below W3.heap.size W3 W4 → ∀ (k : Nat) (o : Obj), w3.heap.size ≤ k → W.heap[k]? = some o → W4.heap[k]? = some o := fun W4 h4 k o hk ho =>
      ((zaa HBr.out h4).block k (Array.getElem?_eq_some_iff.1 ho).1).trans ho
    have takes : (∀ y, G0 = some y → y < gq) → ∀ W4 : World, Below W3.heap.size W3 W4 → KeepsFrom w3.heap.size W ((put3 W4 w0.heap.size (.bool s1) (.slice P1 m1 k1) (.slice S1 n1 d1)).setCell ⟨w0.heap.size + 1, 0, none⟩ (.bool false)) ∧ ∃ s' : Unit,
        Below w.heap.size w ((put3 W4 w0.heap.size (.bool s1) (.slice P1 m1 k1) (.slice S1 n1 d1)).setCell ⟨w0.heap.size + 1, 0, none⟩ (.bool false)) ∧ Row ((put3 W4 w0.heap.size (.bool s1) (.slice P1 m1 k1) (.slice S1 n1 d1)).setCell ⟨w0.heap.size + 1, 0, none⟩ (.bool false)) Bx 134 [.slice A sz.length a, .slice B ps.length b, .slice S sz.length s, .int .i64 M] ∧
          SlI sz ps d (k + 1) w.heap.size w0.heap.size [.slice A sz.length a, .slice B ps.length b, .slice S sz.length s, .int .i64 M, .slice P ps.length c] (.slice D d.length e) ((put3 W4 w0.heap.size (.bool s1) (.slice P1 m1 k1) (.slice S1 n1 d1)).setCell ⟨w0.heap.size + 1, 0, none⟩ (.bool false)) := fun hy W4 h4 => by
      have hG1 : grK (zcv sz ps d) sz (k + 1) = some gq := by
        rw [HGn.out]
        cases G0 with
        | none => rfl
        | some y => simp only [zdv]; rw [if_pos (hy y rfl)]
      have q0 := HB0.out.size
      have q1 := Hz.out
      have q2 := HBx.out
      have q5 := HW2.out
      have q3 := HB2.out.size
      have q4 := RG3.out.lt
      have rg := RG'.out.next h4
      have rfl' := RFl'.out.next h4
      have hbe := (zad (zaa hBW3.out h4) (show w.heap.size ≤ w0.heap.size from q0) (.bool s1) (.slice P1 m1 k1) (.slice S1 n1 d1)).setCell (p := ⟨w0.heap.size + 1, 0, none⟩) (by show w.heap.size ≤ w0.heap.size + 1; omega) (.bool false)
      refine ⟨⟨by simp [put3, World.setCell]; exact (zaa HBr.out h4).size, fun n o hn ho _ => ?_⟩, (), hbe, ?_, ?_, ?_, ?_, ?_, .bool s1, .slice P1 m1 k1, .slice S1 n1 d1, ?_, ?_⟩
      · have hn1 : n ≠ w0.heap.size + 1 := by have u1 := hgW; have u2 : w3.heap.size ≤ n := hn; clear hn; omega
        have hn2 : n ≠ w0.heap.size := by have u1 := hgW; have u2 : w3.heap.size ≤ n := hn; clear hn; omega
        rw [Below.heap_setCell _ _ _ _ hn1, heapF3 _ _ _ _ _ hn2]
        exact hkeep W4 h4 n o hn ho
      · exact (((RB'.out.next h4).far3 (by omega) _ _ _).far (p := ⟨w0.heap.size + 1, 0, none⟩) (by show Bx ≠ w0.heap.size + 1; omega) _)
      · exact (((RF'.out.next h4).far3 (by omega) _ _ _).far (p := ⟨w0.heap.size + 1, 0, none⟩) (by show w.heap.size ≠ w0.heap.size + 1; omega) _)
      · exact (((RDd'.out.next h4).far3 (by omega) _ _ _).far (p := ⟨w0.heap.size + 1, 0, none⟩) (by show w.heap.size + 1 ≠ w0.heap.size + 1; omega) _)
      · exact (((RZ'.out.next h4).far3 (by omega) _ _ _).far (p := ⟨w0.heap.size + 1, 0, none⟩) (by show w.heap.size + 1 + 1 ≠ w0.heap.size + 1; omega) _)
      · rw [hG1]
        exact (rfl'.far3 (by omega) _ _ _).set_ 0 (.bool false)
      · exact (rg.put3 _ _ _).far (p := ⟨w0.heap.size + 1, 0, none⟩) (by show w0.heap.size ≠ w0.heap.size + 1; omega) _
      · rw [hG1]
        exact ((V3.out.next h4).ku (ku_put3 rg _ _ _)).ku (KU.set ((rfl'.far3 (show w0.heap.size + 1 ≠ w0.heap.size by omega) _ _ _)) (by decide) 0 _)
    have Takes := Lib.hid takes
    have Keeps := Lib.hid hkeep
    clear takes hkeep
    cases hG0 : G0 with
    | none =>
      rw [hG0] at f0 Takes
      clear hG0
      simp at f0
      gi_wp2
      refine ⟨trivial, ?_⟩
      gi_wp2
      exact Takes.out (by intro y h; cases h) W3 (Below.refl _ _)
    | some y =>
      rw [hG0] at f0 Takes HQ3 HGz HGn
      have RFs : Hid (Row W3 (w0.heap.size + 1) 4 [.bool false]) := by have h := RFl'.out; rw [hG0] at h; exact h
      have HQy : Hid (IsF W3 (.agg #[.bool sx, .slice xA xm xc, .slice xB xn xd]) y) := HQ3
      clear hG0 RFl' RFl HQ HQ3
      simp at f0
      gi_wp2
      refine ⟨trivial, CallsIn.inRound _ (callsIn_wide.2 ((cmp_f V3.out HQy.out HFz.out (HGz.out y rfl)).mono ?_))⟩
      rintro e W4 ⟨rfl, hb4⟩
      have HB4 := Lib.hid hb4
      have RX4 := Lib.hid (RXr.out.next hb4)
      have RG4 := Lib.hid (RG'.out.next hb4)
      have RF4 := Lib.hid (RFs.out.next hb4)
      clear x0 x1 x2 e0 e1 e2 j0 j1 j2 f0 f1 hb4
      obtain ⟨x0, x1, x2⟩ := zab RX4.out
      obtain ⟨j0, j1, j2⟩ := zan RG4.out
      obtain ⟨e0, e1, e2⟩ := zab RG4.out
      have f0 := RF4.out.cell 0
      have f1 := RF4.out.frozen 0
      simp at f0
      by_cases hlt : y < gq
      · rw [cmpQ_gt hlt]
        gi_wp2
        exact Takes.out (by intro y' h; cases h; exact hlt) W4 HB4.out
      · have hc : ¬ 0 < cmpQ gq y := fun h => hlt (cmpQ_pos.1 h)
        gi_wp2
        have hG1 : grK (zcv sz ps d) sz (k + 1) = some y := by rw [HGn.out, zdv, if_neg hlt]
        have hb4' := zaa HBr.out HB4.out
        refine ⟨⟨hb4'.size, fun n o hn ho _ => Keeps.out W4 HB4.out n o hn ho⟩, (), zaa hBW3.out HB4.out, RB'.out.next HB4.out, RF'.out.next HB4.out, RDd'.out.next HB4.out, RZ'.out.next HB4.out, by rw [hG1]; exact RF4.out, _, _, _, RG4.out, by rw [hG1]; exact HQy.out.next HB4.out⟩
  case done =>
    rintro E _ W hlE ⟨hb, hcB, hF, hDd, hZ, hFl, x, y, z, hG, hq⟩ hE
    have HQ := Lib.hid hq
    have HZ := Lib.hid hZ
    have HBW := Lib.hid hb
    have HE := Lib.hid hE
    obtain ⟨c0, c1, c2⟩ := zab hG
    obtain ⟨d0, d1, d2⟩ := zab hZ
    obtain ⟨i0, i1, i2⟩ := zan hZ
    have hne : E ≠ w.heap.size + 1 + 1 := by have := HB3.out.size; have := RZ3.out.lt; omega
    have HN := Lib.hid hne
    obtain ⟨sx, xA, xm, xc, xB, xn, xd, rfl, rfl, rfl⟩ := frac3 hq
    have hlE2 : w.heap.size ≤ E := Nat.le_trans HB3.out.size hlE
    clear hb hcB hF hDd hZ hFl hG hq hE hne
    go_wp2_with fail
    have hK4 := (heapF3 W (w.heap.size + 1 + 1) (.bool sx) (.slice xA xm xc) (.slice xB xn xd) HN.out).trans HE.out
    have hkc := keepC (grownBy_putObj' (put3 W (w.heap.size + 1 + 1) (.bool sx) (.slice xA xm xc) (.slice xB xn xd)) E (.deferred none)) (fun r e => by cases e; exact ⟨_, hK4, rfl⟩)
    refine ⟨by simp, .inl ⟨_, _, rfl, run_takeDeferred hK4, ?_⟩⟩
    refine ⟨_, results_frac rfl rfl ((HZ.out.put3 _ _ _).kc hkc), ⟨_, rfl, ?_⟩, ?_⟩
    · exact (HQ.out.ku (ku_put3 HZ.out _ _ _)).ku (KF.kc (by simp [World.putObj]) hkc).1.1
    · exact (zad HBW.out (by omega) _ _ _).trans (belowK_b (w := w) (Nat.le_refl _) _ E _ _ hlE2 hK4 rfl rfl)
end Go.Proofs.YtijjjbgnpfjpmaaGreatDoor
namespace Go.Proofs.YtijjjbgnpfjpmaaGreatDoor
open Go.RowKit
set_option linter.unusedVariables false
structure PrOk (d : List Rat) : Prop where
  num : ∀ q ∈ d, L1Q q
  fz : ∀ q ∈ d, Fz q
  pos : ∀ q ∈ d, 0 ≤ q
  part : ∀ k, k ≤ d.length → Fz (tot d k)
  one : tot d d.length = 1
  len : d.length ≤ 36
theorem raw_neg0 {q : Rat} (h : 0 ≤ q) : (raw q).neg = false := by
  rw [raw_neg]
  exact decide_eq_false (Rat.not_lt.2 h)
def RetPr (w : World) (d : List Rat) (e : Ending) (w' : World) : Prop := (∃ v, e = .returned (.tuple #[v, .int .i64 0]) ∧ IsFs w' v d) ∧ Below w.heap.size w w'
set_option maxRecDepth 100000 in
set_option maxHeartbeats 2000000 in
theorem probs_ok {w : World} {v : Value} {d : List Rat} {n : Int} (h : IsV w (Old w) v (d.map raw)) (ok : PrOk d) (hB : Bru w) (hn : n = (d.length : Int)) : Calls Tryz.prog 171 #[v, .int .i64 n] w (RetPr w d) := by
  have HV := Lib.hid h
  have OK := Lib.hid ok
  have HB := Lib.hid hB
  obtain ⟨A, c, rfl⟩ : ∃ A c, v = .slice A d.length c := by
    obtain ⟨A, c, hv, _⟩ := zcb h
    exact ⟨A, c, by rw [hv, List.length_map]⟩
  subst hn
  have hne : ((d.length : Int) != (d.length : Int)) = false := by simp
  have hl := ok.len
  clear h ok hB
  go_enter Tryz.func171, Tryz.ntmps171
  go_wp2_with fail
  go_loopw [16] (fun i wr => ∃ k : Nat, k ≤ d.length ∧ i = .int .i64 (k : Int) ∧ Below w.heap.size w wr) (fun i _ => d.length - (intOf i).toNat)
  case atStart => exact ⟨0, Nat.zero_le _, rfl, Below.refl _ _⟩
  case round =>
    obtain ⟨j, hj, rfl, hbi⟩ := hrel
    have HBI := Lib.hid hbi
    rcases Nat.lt_or_ge j d.length with hjl | hjg
    · have hq := List.getElem?_eq_getElem hjl
      obtain ⟨q, hqe⟩ : ∃ q, q = d[j] := ⟨_, rfl⟩
      rw [← hqe] at hq
      have Hc := Lib.hid ((OK.out.num q (List.mem_of_getElem? hq)).chk)
      have hV := IsV.stb.next HV.out hbi
      obtain ⟨b2, off2, P2, p, S, s, rfl, _, hre, c0, c1', c2⟩ := isV_get hV (j := j) (r := raw q) (by rw [List.getElem?_map, hq]; rfl)
      rw [raw_neg0 (OK.out.pos q (List.mem_of_getElem? hq))] at c0 hre
      have HE := Lib.hid hre
      obtain ⟨w2, hw2, hb2, rB, Hz2⟩ := zao wr #[.bool false, .slice P2 (raw q).num.length p, .slice S (raw q).den.length s] 30
      have HB2 := Lib.hid hb2
      have RB := Lib.hid rB
      obtain ⟨b0, b1, b2'⟩ := zab rB
      clear hV hre hq hqe hbi hb2 rB
      go_wp2_with fail
      clear hw2
      have hcheck := check_q (IsR.stb.next HE.out HB2.out) (Bru.next HB.out (zaa HBI.out HB2.out))
      rw [Hc.out] at hcheck
      refine hcheck.mono ?_
      rintro e w3 ⟨rfl, hb3⟩
      have HB3 := Lib.hid (zaa HBI.out (zaa HB2.out hb3))
      obtain ⟨a0, a1, a2⟩ := zab (RB.out.next hb3)
      clear hb3 hcheck b0 b1 b2' c0 c1' c2
      go_wp2_with fail
      go_roundw
      case rel => exact ⟨j + 1, by omega, by go_num, HB3.out⟩
      case measure => simp [intOf]; omega
    · obtain rfl : j = d.length := og
      clear hbi
      go_wp2_with fail
      refine (list_f (IsV.stb.next HV.out HBI.out) (by omega) OK.out.num).mono ?_
      rintro e w1 ⟨⟨v1, rfl, hv1⟩, hb1⟩
      have HB1 := Lib.hid (zaa HBI.out hb1)
      have V1 := Lib.hid hv1
      clear hv1 hb1
      go_wp2_with fail
      refine (total_f V1.out OK.out.fz OK.out.part).mono ?_
      rintro e w2 ⟨⟨v2, rfl, hv2⟩, hb2⟩
      have HB2 := Lib.hid (zaa HB1.out hb2)
      have V2 := Lib.hid hv2
      have V1' := Lib.hid (V1.out.next hb2)
      clear hv2 hb2
      go_wp2_with fail
      refine (int_f w2 1 1 rfl (by omega)).mono ?_
      rintro e w3 ⟨⟨v3, rfl, hv3⟩, hb3⟩
      have HB3 := Lib.hid (zaa HB2.out hb3)
      have V3 : Hid (IsF w3 v3 (1 : Rat)) := hv3
      have V2' := Lib.hid (V2.out.next hb3)
      have V1'' := Lib.hid (V1'.out.next hb3)
      clear hv3 hb3
      go_wp2_with fail
      refine (cmp_f V2'.out V3.out (OK.out.part _ (Nat.le_refl _)) (by rw [← OK.out.one]; exact OK.out.part _ (Nat.le_refl _))).mono ?_
      rintro e w4 ⟨rfl, hb4⟩
      rw [OK.out.one, zfq rfl]
      have HB4 := Lib.hid (zaa HB3.out hb4)
      have V4 := Lib.hid (V1''.out.next hb4)
      clear hb4
      go_wp2_with fail
      go_ret2
      exact ⟨⟨_, rfl, V4.out⟩, HB4.out⟩
end Go.Proofs.YtijjjbgnpfjpmaaGreatDoor
namespace Go.Proofs.YtijjjbgnpfjpmaaGreatDoor
set_option linter.unusedVariables false
theorem mk_add {a b : Int} {n : Nat} (hn : n ≠ 0) : mkRat a n + mkRat b n = mkRat (a + b) n := by
  rw [Rat.mkRat_add_mkRat _ _ hn hn, ← Int.add_mul]
  exact Rat.mkRat_mul_right hn
theorem mk_small {a : Int} {n Z : Nat} (ha : a.natAbs ≤ Z) (hn : n ≠ 0) : (mkRat a n).num.natAbs ≤ Z ∧ (mkRat a n).den ≤ n := by
  have h1 : (mkRat a n).den ∣ n := by
    rw [Rat.den_mkRat a n]
    split
    · exact Nat.one_dvd n
    · exact Nat.div_dvd_of_dvd (Nat.gcd_dvd_left _ _)
  have h2 : (mkRat a n).num.natAbs ≤ a.natAbs := by
    rw [Rat.num_mkRat]
    split
    · simp
    · exact Int.natAbs_ediv_le_natAbs _ _
  exact ⟨Nat.le_trans h2 ha, Nat.le_of_dvd (by omega) h1⟩
theorem mk_l1 {a : Int} {n : Nat} (ha : a.natAbs ≤ 100000000) (hn : n ≠ 0) (hn2 : n ≤ 30) : L1Q (mkRat a n) := by
  obtain ⟨h1, h2⟩ := mk_small ha hn
  exact ⟨by unfold L1; omega, by unfold L1; omega⟩
theorem tot_mk {n : Nat} (hn : n ≠ 0) (zs : List Int) (k : Nat) : tot (zs.map fun z => mkRat z n) k = mkRat ((zs.take k).foldl (· + ·) 0) n := by
  induction k with
  | zero => simp [tot]
  | succ k ih =>
    by_cases hk : k < zs.length
    · have hz := List.getElem?_eq_getElem hk
      rw [zfm (q := mkRat zs[k] n) (by rw [List.getElem?_map, hz]; rfl), ih, mk_add hn, List.take_succ_eq_append_getElem hk, List.foldl_append]
      rfl
    · have e1 : tot (zs.map fun z => mkRat z n) (k + 1) = tot (zs.map fun z => mkRat z n) k := by
        unfold tot
        rw [List.take_of_length_le (by rw [List.length_map]; omega), List.take_of_length_le (by rw [List.length_map]; omega)]
      rw [e1, ih, List.take_of_length_le (by omega), List.take_of_length_le (by omega)]
theorem foldl_abs {Z : Nat} (zs : List Int) (h : ∀ z ∈ zs, z.natAbs ≤ Z) (a : Int) : (zs.foldl (· + ·) a).natAbs ≤ a.natAbs + zs.length * Z := by
  induction zs generalizing a with
  | nil => simp
  | cons z l ih =>
    rw [List.foldl_cons, List.length_cons]
    have h1 := ih (fun z hz => h z (by simp [hz])) (a + z)
    have h2 := h z (by simp)
    have h3 := Int.natAbs_add_le a z
    rw [Nat.add_mul, Nat.one_mul]
    omega
theorem tot_small {n Z : Nat} (hn : n ≠ 0) (hn2 : n ≤ 30) {zs : List Int} (h : ∀ z ∈ zs, z.natAbs ≤ Z) (hZ : zs.length * Z ≤ 100000000) (k : Nat) : L1Q (tot (zs.map fun z => mkRat z n) k) := by
  rw [tot_mk hn]
  refine mk_l1 ?_ hn hn2
  have h1 := foldl_abs (zs.take k) (fun z hz => h z (List.mem_of_mem_take hz)) 0
  have h2 : (zs.take k).length * Z ≤ zs.length * Z := Nat.mul_le_mul_right _ (by rw [List.length_take]; omega)
  simp at h1
  simp at h2
  omega
def cntsQ (sz : List Nat) (ll : List (List Nat)) : List Int := (List.range (prd sz)).map fun i => (((ll.map (numL sz)).count i : Nat) : Int)
theorem zfc (sz : List Nat) (ll : List (List Nat)) : zaz sz ll = (cntsQ sz ll).map fun z => mkRat z ll.length := by
  unfold zaz cntsQ
  rw [List.map_map]
  rfl
theorem cnts_le {sz : List Nat} {ll : List (List Nat)} {z : Int} (h : z ∈ cntsQ sz ll) : 0 ≤ z ∧ z.natAbs ≤ ll.length := by
  obtain ⟨i, _, rfl⟩ := List.mem_map.1 h
  have h2 : (ll.map (numL sz)).count i ≤ (ll.map (numL sz)).length := List.count_le_length
  rw [List.length_map] at h2
  exact ⟨by omega, by omega⟩
theorem hist_l1 {sz : List Nat} {ll : List (List Nat)} (h1 : 1 ≤ ll.length) (h30 : ll.length ≤ 30) : ∀ q ∈ zaz sz ll, L1Q q := fun q hq => by
  rw [zfc] at hq
  obtain ⟨z, hz, rfl⟩ := List.mem_map.1 hq
  have := (cnts_le hz).2
  exact mk_l1 (by omega) (by omega) h30
theorem foldl_cnt (l : List Nat) (n : Nat) : ((List.range n).map fun i => ((l.count i : Nat) : Int)).foldl (· + ·) 0 = ((l.countP (fun x => decide (x < n)) : Nat) : Int) := by
  induction n with
  | zero => simp
  | succ n ih =>
    rw [List.range_succ, List.map_append, List.foldl_append, ih]
    simp only [List.map_cons, List.map_nil, List.foldl_cons, List.foldl_nil]
    have e : l.countP (fun x => decide (x < n + 1)) = l.countP (fun x => decide (x < n)) + l.count n := by
      clear ih
      induction l with
      | nil => rfl
      | cons a l ih =>
        rw [List.countP_cons, List.countP_cons, List.count_cons, ih]
        by_cases h1 : a < n
        · have h2 : a < n + 1 := by omega
          have h3 : ¬ a = n := by omega
          simp [h1, h2, h3]; omega
        · by_cases h3 : a = n
          · subst h3; simp; omega
          · have h2 : ¬ a < n + 1 := by omega
            simp [h1, h2, h3]
    rw [e]
    simp
theorem hist_pr {sz : List Nat} {ll : List (List Nat)} (ok : PlOk sz ll) (h36 : prd sz ≤ 36) (h1 : 1 ≤ ll.length) (h30 : ll.length ≤ 30) : PrOk (zaz sz ll) := by
  have hn : ll.length ≠ 0 := by omega
  have hlen : (cntsQ sz ll).length = prd sz := by simp [cntsQ]
  have hL := hist_l1 (sz := sz) h1 h30
  refine ⟨hL, fun q hq => (hL q hq).fz, fun q hq => ?_, fun k _ => ?_, ?_, ?_⟩
  · rw [zfc] at hq
    obtain ⟨z, hz, rfl⟩ := List.mem_map.1 hq
    obtain ⟨hz0, _⟩ := cnts_le hz
    refine Rat.num_nonneg.1 ?_
    rw [Rat.num_mkRat]
    split
    · exact Int.le_refl _
    · exact Int.ediv_nonneg hz0 (by omega)
  · rw [zfc]
    refine (tot_small hn h30 (Z := 30) (fun z hz => Nat.le_trans (cnts_le hz).2 h30) (by rw [hlen]; omega) k).fz
  · rw [zfc, tot_mk hn, List.length_map, List.take_length]
    unfold cntsQ
    rw [foldl_cnt]
    have e : (ll.map (numL sz)).countP (fun x => decide (x < prd sz)) = ll.length := by
      rw [List.countP_eq_length.2, List.length_map]
      intro x hx
      obtain ⟨r, hr, rfl⟩ := List.mem_map.1 hx
      exact decide_eq_true (zed (zdp ok hr))
    rw [e]
    have := Rat.mkRat_mul_right (n := 1) (d := 1) hn
    rw [Int.one_mul, Nat.one_mul] at this
    rw [this]
    rfl
  · rw [zfc, List.length_map, hlen]
    exact h36
def IntPs (ps : List (List Rat)) : Prop := ∀ r ∈ ps, ∀ q ∈ r, ∃ x : Int, q = (x : Rat) ∧ x.natAbs ≤ 3
theorem int_getD {ps : List (List Rat)} (h : IntPs ps) (p i : Nat) : ∃ x : Int, (rowP ps p).getD i 0 = (x : Rat) ∧ x.natAbs ≤ 3 := by
  unfold rowP
  rw [List.getD_eq_getElem?_getD]
  cases hi : (ps.getD p [])[i]? with
  | none => exact ⟨0, rfl, by simp⟩
  | some q =>
    have hq := List.mem_of_getElem? hi
    rw [List.getD_eq_getElem?_getD] at hq
    cases hp : ps[p]? with
    | none => rw [hp] at hq; simp at hq
    | some r =>
      rw [hp] at hq
      exact h r (List.mem_of_getElem? hp) q hq
theorem list_choose {α β : Type} {R : α → β → Prop} (l : List α) (h : ∀ a ∈ l, ∃ b, R a b) : ∃ m : List β, All2 R l m := by
  induction l with
  | nil => exact ⟨[], All2.nil⟩
  | cons a l ih =>
    obtain ⟨m, hm⟩ := ih fun x hx => h x (by simp [hx])
    obtain ⟨b, hb⟩ := h a (by simp)
    refine ⟨b :: m, by simp [hm.1], fun j x y hx hy => ?_⟩
    rcases j with _ | j
    · cases hx; cases hy; exact hb
    · exact hm.2 j x y (by simpa using hx) (by simpa using hy)
theorem alw_int {ps : List (List Rat)} (h : IntPs ps) (sz : List Nat) (p t : Nat) : ∀ q ∈ alw sz ps p t, ∃ x : Int, q = (x : Rat) ∧ x.natAbs ≤ 6 := fun q hq => by
  unfold alw at hq
  obtain ⟨i, _, rfl⟩ := List.mem_map.1 hq
  obtain ⟨x, hx, hx3⟩ := int_getD h p (insN sz i p t).toNat
  obtain ⟨y, hy, hy3⟩ := int_getD h p i
  refine ⟨x - y, ?_, by omega⟩
  rw [hx, hy, Rat.intCast_sub]
theorem mk_mul_int (a x : Int) {n : Nat} (hn : n ≠ 0) : mkRat a n * (x : Rat) = mkRat (a * x) n := by
  rw [← Rat.mkRat_one x, Rat.mkRat_mul_mkRat, Nat.mul_one]
theorem gain_mk {sz : List Nat} {ps : List (List Rat)} {ll : List (List Nat)} (h : IntPs ps) (h1 : 1 ≤ ll.length) (h30 : ll.length ≤ 30) (p t : Nat) :
    ∃ zs : List Int, mulL (zaz sz ll) (alw sz ps p t) = (zs.map fun z => mkRat z ll.length) ∧ (∀ z ∈ zs, z.natAbs ≤ 180) ∧ zs.length = prd sz := by
  have hn : ll.length ≠ 0 := by omega
  have hlen : (zaz sz ll).length = prd sz := by simp [zaz]
  have key : ∀ q ∈ mulL (zaz sz ll) (alw sz ps p t), ∃ z : Int, q = mkRat z ll.length ∧ z.natAbs ≤ 180 := fun q hq => by
    unfold mulL at hq
    obtain ⟨i, hi, rfl⟩ := List.mem_map.1 hq
    have hil : i < prd sz := by rw [← hlen]; exact List.mem_range.1 hi
    have e1 : (zaz sz ll).getD i 0 = mkRat (((ll.map (numL sz)).count i : Nat) : Int) ll.length := by
      rw [List.getD_eq_getElem?_getD]
      unfold zaz
      rw [List.getElem?_map, List.getElem?_range hil]
      rfl
    have e2 : ∃ x : Int, (alw sz ps p t).getD i 0 = (x : Rat) ∧ x.natAbs ≤ 6 := by
      have hia : i < (alw sz ps p t).length := by rw [alw_len]; exact hil
      rw [List.getD_eq_getElem?_getD, List.getElem?_eq_getElem hia]
      exact alw_int h sz p t _ (List.getElem_mem hia)
    obtain ⟨x, hx, hx6⟩ := e2
    refine ⟨_, by rw [e1, hx, mk_mul_int _ _ hn], ?_⟩
    have hc : (ll.map (numL sz)).count i ≤ 30 := by
      have h2 : (ll.map (numL sz)).count i ≤ (ll.map (numL sz)).length := List.count_le_length
      rw [List.length_map] at h2
      omega
    rw [Int.natAbs_mul, Int.natAbs_natCast]
    exact Nat.le_trans (Nat.mul_le_mul hc hx6) (by omega)
  obtain ⟨zs, hz⟩ := list_choose _ key
  refine ⟨zs, ?_, fun z hzm => ?_, by rw [← hz.1, mulL_len, hlen]⟩
  · refine List.ext_getElem? fun i => ?_
    by_cases hi : i < zs.length
    · have hi2 : i < (mulL (zaz sz ll) (alw sz ps p t)).length := by rw [hz.1]; exact hi
      have := hz.2 i _ _ (List.getElem?_eq_getElem hi2) (List.getElem?_eq_getElem hi)
      rw [List.getElem?_eq_getElem hi2, this.1, List.getElem?_map, List.getElem?_eq_getElem hi]
      rfl
    · rw [List.getElem?_eq_none (by rw [hz.1]; omega), List.getElem?_eq_none (by rw [List.length_map]; omega)]
  · obtain ⟨i, hi⟩ := List.getElem?_of_mem hzm
    obtain ⟨q, hq, hr⟩ := hz.get hi
    exact hr.2
theorem hist_gain {sz : List Nat} {ps : List (List Rat)} {ll : List (List Nat)} (h : IntPs ps) (h36 : prd sz ≤ 36) (h1 : 1 ≤ ll.length) (h30 : ll.length ≤ 30) : GainOk sz ps (zaz sz ll) := by
  have hn : ll.length ≠ 0 := by omega
  have hlen : (zaz sz ll).length = prd sz := by simp [zaz]
  have hL := hist_l1 (sz := sz) h1 h30
  refine ⟨hlen, fun q hq => (hL q hq).fz, fun p x t _ _ q hq => ?_, fun p x t _ _ q hq => ?_, fun p x t _ _ k _ => ?_⟩
  · obtain ⟨z, rfl, hz⟩ := alw_int h sz p t q hq
    rw [← Rat.mkRat_one z]
    exact (mk_l1 (by omega) (by omega) (by omega)).fz
  · obtain ⟨zs, he, hz, _⟩ := gain_mk (sz := sz) h h1 h30 p t
    rw [he] at hq
    obtain ⟨z, hzm, rfl⟩ := List.mem_map.1 hq
    exact (mk_l1 (Nat.le_trans (hz z hzm) (by omega)) hn h30).fz
  · obtain ⟨zs, he, hz, hzl⟩ := gain_mk (sz := sz) h h1 h30 p t
    rw [he]
    exact (tot_small hn h30 hz (by rw [hzl]; omega) k).fz
theorem zft {sz : List Nat} {ps : List (List Rat)} {ll : List (List Nat)} (h : IntPs ps) (h36 : prd sz ≤ 36) (h1 : 1 ≤ ll.length) (h30 : ll.length ≤ 30) (p t : Nat) : L1Q (zcv sz ps (zaz sz ll) p t) := by
  obtain ⟨zs, he, hz, hzl⟩ := gain_mk (sz := sz) h h1 h30 p t
  unfold zcv
  rw [he]
  exact tot_small (by omega) h30 hz (by rw [hzl]; omega) _
theorem foldl_all {R : Rat → Prop} {f : Nat → Nat → Rat} (hf : ∀ p t, R (f p t)) (l : List (Nat × Nat)) (g : Option Rat) (hg : ∀ y, g = some y → R y) : ∀ y, l.foldl (fun g pt => zdv g (f pt.1 pt.2)) g = some y → R y := by
  induction l generalizing g with
  | nil => exact hg
  | cons pt l ih =>
    refine ih _ fun y hy => ?_
    cases g with
    | none => cases hy; exact hf _ _
    | some z =>
      simp only [zdv] at hy
      split at hy <;> cases hy
      · exact hf _ _
      · exact hg _ rfl
theorem slack_l1 {sz : List Nat} {ps : List (List Rat)} {ll : List (List Nat)} (h : IntPs ps) (h36 : prd sz ≤ 36) (h1 : 1 ≤ ll.length) (h30 : ll.length ≤ 30) : L1Q (slackQ sz ps (zaz sz ll)) := by
  unfold slackQ
  have := foldl_all (R := L1Q) (fun p t => zft (sz := sz) h h36 h1 h30 p t) ((dv 0 sz).take sz.sum) none (fun _ h => by cases h)
  cases hg : grK (zcv sz ps (zaz sz ll)) sz sz.sum with
  | none => exact ⟨by simp [L1], by simp [L1]⟩
  | some y => exact this y hg
end Go.Proofs.YtijjjbgnpfjpmaaGreatDoor
