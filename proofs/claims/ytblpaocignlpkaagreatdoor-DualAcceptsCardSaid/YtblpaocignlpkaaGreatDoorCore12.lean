/-
  The zbe of package dual's given.
-/
import Derived.Test.YtblpaocignlpkaaGreatDoorCore11
import Derived.Test.YtblpaocignlpkaaGreatDoorCore08
import Derived.Test.YtblpaocignlpkaaGreatDoorCore03
import Derived.Test.YtblpaocignlpkaaGreatDoorCore07
import Derived.Test.YtblpaocignlpkaaGreatDoorCore04
namespace Go.Proofs.YtblpaocignlpkaaGreatDoor
open Go.RowKit
set_option linter.unusedVariables false
def vecE (n : Nat) (v : List Raw) : Int := if chkV v ≠ 0 then chkV v else if v.length ≠ n then 10 else 0
def givE (p : Prog) (ns : List Nat) (ls : List (List Raw)) : Int := if chkP p ≠ 0 then chkP p else fstE (List.zipWith vecE ns ls)
def NsIn (w : World) (v : Value) (ns : List Nat) : Prop := ∃ b c, v = .slice (some ⟨b, 0, none⟩) ns.length c ∧ b < w.heap.size ∧ ∀ (j n : Nat), ns[j]? = some n → w.cell? ⟨b, j, none⟩ = some (.int .i64 (n : Int))
theorem zipWith_getD {ns : List Nat} {ls : List (List Raw)} {j n : Nat} {l : List Raw} (h1 : ns[j]? = some n) (h2 : ls[j]? = some l) : (List.zipWith vecE ns ls)[j]? = some (vecE n l) := by
  rw [List.getElem?_zipWith, h1, h2]
theorem zdv {w w0 : World} {v : Value} {p : Prog} (h : IsP w (Old w) v p) (hB : Bru w) (hb : Below w.heap.size w w0) : Calls Tryz.prog 53 #[v] w0 fun e w' => e = .returned (.int .i64 (chkP p)) ∧ Below w0.heap.size w0 w' := pcheck (IsP.stb.to h (zag hb)) (Bru.next hB hb)
set_option maxRecDepth 100000 in
set_option maxHeartbeats 2000000 in
theorem given_l {w : World} {vp vs vl : Value} {p : Prog} {ns : List Nat} {ls : List (List Raw)} (hp : IsP w (Old w) vp p) (hs : NsIn w vs ns) (hl : IsM w (Old w) vl ls) (hB : Bru w) (hlen : ns.length = ls.length) (hns : ∀ n ∈ ns, n ≤ 9223372036854775807) (h40 : ls.length ≤ 40) :
    Calls Tryz.prog 74 #[vp, vs, vl] w fun e w' => e = .returned (.int .i64 (givE p ns ls)) ∧ Below w.heap.size w w' := by
  have HP := Lib.hid hp
  have HL := Lib.hid hl
  have HB := Lib.hid hB
  have Hlen := Lib.hid hlen
  have Hns := Lib.hid hns
  obtain ⟨b, c, rfl, hb, hcs⟩ := hs
  have Hb := Lib.hid hb
  have Hcs := Lib.hid hcs
  obtain ⟨D, d, rfl, _⟩ := zdo hl
  obtain ⟨A, cA, B, cB, C, cC, rfl, _⟩ := hp
  clear hl hB hns hb hcs
  obtain ⟨w0, hw0, hb0, rP, Hz⟩ := zbm w #[.slice A p.A.length cA, .slice B p.B.length cB, .slice C p.C.length cC] 27
  have HB0 := Lib.hid hb0
  have RP := Lib.hid rP
  obtain ⟨cP0, cP1, cP2⟩ := zad rP
  obtain ⟨x, hx⟩ : ∃ x, x = chkP p := ⟨_, rfl⟩
  have Hx := Lib.hid hx
  clear rP hb0
  by_cases hx0 : x = 0
  case neg =>
    have e0 : (x != 0) = true := bne_iff_ne.2 hx0
    have Hfin : Hid (givE p ns ls = x) := by rw [Hid, givE, if_pos (by rw [← hx]; exact hx0), hx]
    clear hx hx0
    go_enter Tryz.func74, Tryz.ntmps74
    go_wp2_with fail
    clear hw0
    refine (zdv HP.out HB.out HB0.out).mono ?_
    rw [← Hx.out]
    rintro e w1 ⟨rfl, hb⟩
    go_wp2_with fail
    go_ret
    exact ⟨zar Hfin.out.symm, zaa HB0.out hb⟩
  have Hr : Hid (givE p ns ls = fstE (List.zipWith vecE ns ls)) := by rw [Hid, givE, if_neg (by rw [← hx]; exact fun h => h hx0)]
  subst hx0
  clear hx
  rw [hlen]
  clear hlen
  go_enter Tryz.func74, Tryz.ntmps74
  go_wp2_with fail
  clear hw0
  refine (zdv HP.out HB.out HB0.out).mono ?_
  rw [← Hx.out]
  rintro e w1 ⟨rfl, hb⟩
  have Hb1 := Lib.hid (zaa HB0.out hb)
  clear hb cP0 cP1 cP2
  go_wp2_with fail
  go_loopw [18] (fun i wr => ∃ k : Nat, k ≤ ls.length ∧ i = .int .i64 (k : Int) ∧ Below w.heap.size w wr ∧ Hid (∀ j, j < k → (List.zipWith vecE ns ls).getD j 0 = 0)) (fun i _ => ls.length - (intOf i).toNat)
  case atStart => exact ⟨0, Nat.zero_le _, rfl, Hb1.out, fun j hj => by omega⟩
  case round =>
    obtain ⟨k, hk, rfl, hbw, hrel⟩ := hrel
    have Hrel := Lib.hid hrel.out
    have Hbw := Lib.hid hbw
    clear hrel
    rcases Nat.lt_or_ge k ls.length with hlt | hge
    · obtain ⟨l, hl⟩ := zcs hlt
      obtain ⟨n, hn⟩ := zcs (l := ns) (j := k) (by rw [Hlen.out]; exact hlt)
      obtain ⟨b2, off, P, kP, rfl, hSb, hel, c0⟩ := zdp (IsM.stb.to HL.out (zag hbw)) hl
      have hcn := keepN hbw Hb.out (Hcs.out k n hn)
      have hnl : n ≤ 9223372036854775807 := Hns.out n (List.mem_of_getElem? hn)
      obtain ⟨ll, hll⟩ : ∃ m, m = l.length := ⟨_, rfl⟩
      rw [← hll] at c0 hel
      have Hll := Lib.hid hll
      have Hel := Lib.hid hel
      have Hz2 := Lib.hid (zipWith_getD hn hl)
      have hbx : Hid (Bru wr) := Bru.next HB.out hbw
      obtain ⟨y, hy⟩ : ∃ y, y = chkV l := ⟨_, rfl⟩
      have Hy := Lib.hid hy
      clear hel hl hn hbw hll
      by_cases hy0 : y = 0
      case neg =>
        have e0 : (y != 0) = true := bne_iff_ne.2 hy0
        have Hfin : Hid (givE p ns ls = y) := by
          rw [Hid, Hr.out]
          refine fstE_at Hrel.out (Hz2.out.trans ?_) hy0
          rw [vecE, if_pos (by rw [← hy]; exact hy0), hy]
        clear hy hy0
        go_wp2_with fail
        refine (zfj Hel.out hbx.out).mono ?_
        rw [← Hy.out]
        rintro e w2 ⟨rfl, hb⟩
        go_wp2_with fail
        go_ret
        exact ⟨zar Hfin.out.symm, zaa Hbw.out hb⟩
      have Hv : Hid (vecE n l = if ll ≠ n then 10 else 0) := by rw [Hid, vecE, if_neg (by rw [← hy]; exact fun h => h hy0), Hll.out]
      subst hy0
      clear hy
      by_cases hln : ll = n
      case neg =>
        have e0 : ((ll : Int) != (n : Int)) = true := bne_iff_ne.2 (by omega)
        have Hfin : Hid (givE p ns ls = 10) := by
          rw [Hid, Hr.out]
          refine fstE_at Hrel.out (Hz2.out.trans ?_) (by decide)
          rw [Hv.out, if_pos hln]
        clear hln
        go_wp2_with fail
        refine (zfj Hel.out hbx.out).mono ?_
        rw [← Hy.out]
        rintro e w2 ⟨rfl, hb⟩
        have hcn2 := zab hb hcn
        go_wp2_with fail
        go_ret
        exact ⟨zar Hfin.out.symm, zaa Hbw.out hb⟩
      have e0 : ((ll : Int) != (n : Int)) = false := by rw [hln]; simp
      have Hv2 : Hid (vecE n l = 0) := by rw [Hid, Hv.out, if_neg (fun h => h hln)]
      clear hln
      go_wp2_with fail
      refine (zfj Hel.out hbx.out).mono ?_
      rw [← Hy.out]
      rintro e w2 ⟨rfl, hb⟩
      have hcn2 := zab hb hcn
      have Hb2 := Lib.hid (zaa Hbw.out hb)
      clear hb
      go_wp2_with fail
      go_roundw
      case rel =>
        refine ⟨k + 1, by omega, by go_num, Hb2.out, fun j hj => ?_⟩
        rcases Nat.lt_or_ge j k with h | h
        · exact Hrel.out j h
        · obtain rfl : j = k := by omega
          rw [List.getD_eq_getElem?_getD, Hz2.out, Hv2.out]; rfl
      case measure => simp [intOf]; omega
    · obtain rfl : k = ls.length := by omega
      have Hfin : Hid (givE p ns ls = 0) := by
        rw [Hid, Hr.out]
        exact fstE_all (by rw [List.length_zipWith, Hlen.out, Nat.min_self]; exact Hrel.out)
      clear hbw
      go_wp2_with fail
      go_ret
      exact ⟨zar Hfin.out.symm, Hbw.out⟩
end Go.Proofs.YtblpaocignlpkaaGreatDoor
namespace Go.Proofs.YtblpaocignlpkaaGreatDoor
set_option linter.unusedVariables false
def leastB (l : List Rat) : Bool := !zda (rawV l)
def negV (l : List Rat) : List Rat := l.map fun q => -q
def zfp (A : List (List Rat)) (B x : List Rat) : List Rat := List.zipWith (fun row b => b - dotQ row x) A B
def zca (p : ProgQ) : ProgQ := ⟨(List.range p.C.length).map fun k => negV (colQ p.A k), negV p.C, negV p.B⟩
theorem anyNeg_raw (l : List Rat) : zda (rawV l) = l.any fun q => decide (q < 0) := by
  unfold zda rawV
  rw [List.any_map]
  congr 1
  funext q
  exact raw_neg
theorem leastB_true {l : List Rat} : leastB l = true ↔ ∀ q ∈ l, 0 ≤ q := by
  unfold leastB
  rw [anyNeg_raw, Bool.not_eq_true', List.any_eq_false]
  refine ⟨fun h q hq => ?_, fun h q hq => ?_⟩
  · have := h q hq
    simp only [decide_eq_true_eq] at this
    exact Rat.not_lt.1 this
  · simp only [decide_eq_true_eq]
    exact Rat.not_lt.2 (h q hq)
theorem sub_nonneg {a b : Rat} : 0 ≤ b - a ↔ a ≤ b := (Rat.le_iff_sub_nonneg a b).symm
theorem restQ_len {A : List (List Rat)} {B x : List Rat} (h : A.length = B.length) : (zfp A B x).length = B.length := by unfold zfp; rw [List.length_zipWith, h, Nat.min_self]
theorem restQ_get {A : List (List Rat)} {B x row : List Rat} {b : Rat} {j : Nat} (h1 : A[j]? = some row) (h2 : B[j]? = some b) : (zfp A B x)[j]? = some (b - dotQ row x) := by
  unfold zfp; rw [List.getElem?_zipWith, h1, h2]
theorem restQ_take {A : List (List Rat)} {B x row : List Rat} {b : Rat} {j : Nat} (h1 : A[j]? = some row) (h2 : B[j]? = some b) : (zfp A B x).take (j + 1) = (zfp A B x).take j ++ [b - dotQ row x] := zcj (restQ_get h1 h2)
theorem rest_least {A : List (List Rat)} {B x : List Rat} : leastB (zfp A B x) = true ↔ ∀ p ∈ A.zip B, dotQ p.1 x ≤ p.2 := by
  rw [leastB_true]
  refine ⟨fun h p hp => ?_, fun h q hq => ?_⟩
  · obtain ⟨j, hj⟩ := List.getElem?_of_mem hp
    rw [List.getElem?_zip_eq_some] at hj
    exact sub_nonneg.1 (h _ (List.mem_of_getElem? (restQ_get hj.1 hj.2)))
  · obtain ⟨j, hj⟩ := List.getElem?_of_mem hq
    unfold zfp at hj
    rw [List.getElem?_zipWith] at hj
    cases h1 : A[j]? with
    | none => rw [h1] at hj; cases hj
    | some row =>
      cases h2 : B[j]? with
      | none => rw [h1, h2] at hj; cases hj
      | some b =>
        rw [h1, h2] at hj
        cases hj
        exact sub_nonneg.2 (h (row, b) (List.mem_of_getElem? (List.getElem?_zip_eq_some.2 ⟨h1, h2⟩)))
theorem feas_rest (A : List (List Rat)) (B x : List Rat) : zeg A B x = (leastB x && leastB (zfp A B x)) := by
  rw [Bool.eq_iff_iff, Bool.and_eq_true, rest_least]
  unfold zeg
  rw [Bool.and_eq_true, List.all_eq_true]
  simp only [decide_eq_true_eq]
  exact ⟨fun h => ⟨h.2, h.1⟩, fun h => ⟨h.2, h.1⟩⟩
theorem dotQ_negA (z : List (Rat × Rat)) (s : Rat) : (z.map fun p => (-p.1, p.2)).foldl (fun s p => s + p.1 * p.2) (-s) = -(z.foldl (fun s p => s + p.1 * p.2) s) := by
  induction z generalizing s with
  | nil => rfl
  | cons p z ih =>
    rw [List.map_cons, List.foldl_cons, List.foldl_cons, ← ih]
    congr 1
    rw [Rat.neg_mul, Rat.neg_add]
theorem zip_negV (a y : List Rat) : (negV a).zip y = (a.zip y).map fun p => (-p.1, p.2) := by
  unfold negV
  rw [List.zip_map_left]
  rfl
theorem dotQ_neg (a y : List Rat) : dotQ (negV a) y = -dotQ a y := by
  unfold dotQ sumP
  rw [zip_negV]
  have := dotQ_negA (a.zip y) 0
  rwa [Rat.neg_zero] at this
theorem negV_get {l : List Rat} {j : Nat} {q : Rat} (h : l[j]? = some q) : (negV l)[j]? = some (-q) := by unfold negV; rw [List.getElem?_map, h]; rfl
theorem negV_len (l : List Rat) : (negV l).length = l.length := List.length_map _
theorem negV_neg (l : List Rat) : negV (negV l) = l := by
  unfold negV
  rw [List.map_map]
  conv => rhs; rw [← List.map_id l]
  congr 1
  funext q
  exact Rat.neg_neg q
theorem suf_rest (p : ProgQ) (y : List Rat) : sufB p.A p.C y = (leastB y && leastB (zfp (zca p).A (zca p).B y)) := by
  rw [Bool.eq_iff_iff, Bool.and_eq_true, rest_least]
  unfold sufB
  rw [Bool.and_eq_true, List.all_eq_true]
  have key : (∀ k ∈ List.range p.C.length, decide (p.C.getD k 0 ≤ dotQ (colQ p.A k) y) = true) ↔ ∀ r ∈ (zca p).A.zip (zca p).B, dotQ r.1 y ≤ r.2 := by
    refine ⟨fun h r hr => ?_, fun h k hk => ?_⟩
    · obtain ⟨j, hj⟩ := List.getElem?_of_mem hr
      rw [List.getElem?_zip_eq_some] at hj
      obtain ⟨h1, h2⟩ := hj
      unfold zca at h1 h2
      simp only at h1 h2
      rw [List.getElem?_map] at h1
      have hlt : j < p.C.length := by
        have := (List.getElem?_eq_some_iff.1 h2).1
        rw [negV_len] at this
        exact this
      rw [List.getElem?_range hlt] at h1
      rw [negV_get (List.getElem?_eq_getElem hlt)] at h2
      have e1 : r.1 = negV (colQ p.A j) := (Option.some.inj h1).symm
      have e2 : r.2 = -p.C[j] := (Option.some.inj h2).symm
      have := h j (List.mem_range.2 hlt)
      rw [decide_eq_true_eq, List.getD_eq_getElem?_getD, List.getElem?_eq_getElem hlt] at this
      rw [e1, e2, dotQ_neg]
      exact Rat.neg_le_neg this
    · have hlt := List.mem_range.1 hk
      rw [decide_eq_true_eq, List.getD_eq_getElem?_getD, List.getElem?_eq_getElem hlt]
      have := h (negV (colQ p.A k), -p.C[k]) (List.mem_of_getElem? (List.getElem?_zip_eq_some.2 ⟨by
        unfold zca; simp only; rw [List.getElem?_map, List.getElem?_range hlt]; rfl, negV_get (List.getElem?_eq_getElem hlt)⟩))
      simp only [dotQ_neg] at this
      have := Rat.neg_le_neg this
      rwa [Rat.neg_neg, Rat.neg_neg] at this
  unfold leastB
  exact ⟨fun h => ⟨h.2, key.1 h.1⟩, fun h => ⟨key.2 h.2, h.1⟩⟩
theorem good_dual {p : ProgQ} (h : Good p 1024) : Good (zca p) 1024 := by
  refine ⟨by simp [zca, negV], ?_, ?_, ?_, ?_, by simp only [zca, negV_len]; exact h.nC, by simp only [zca, negV_len]; exact h.nB⟩
  · intro row hr
    obtain ⟨k, _, rfl⟩ := List.mem_map.1 hr
    simp [zca, negV, colQ, h.rows]
  · intro row hr q hq
    obtain ⟨k, _, rfl⟩ := List.mem_map.1 hr
    obtain ⟨x, hx, rfl⟩ := List.mem_map.1 hq
    exact (colQ_sz h.szA (by omega) x hx).neg
  · intro q hq
    obtain ⟨x, hx, rfl⟩ := List.mem_map.1 hq
    exact (h.szC x hx).neg
  · intro q hq
    obtain ⟨x, hx, rfl⟩ := List.mem_map.1 hq
    exact (h.szB x hx).neg
theorem dual_twice {p : ProgQ} {k : Nat} (h : Good p k) : zca (zca p) = p := by
  obtain ⟨A, B, C⟩ := p
  have hA := h.rows
  have hC := h.cols
  simp only at hA hC
  simp only [zca, negV_neg, ProgQ.mk.injEq, and_true, negV_len]
  apply List.ext_getElem
  · simp [hA]
  · intro i h1 h2
    rw [List.getElem_map, List.getElem_range]
    apply List.ext_getElem
    · simp [negV, colQ, hC A[i] (List.getElem_mem h2)]
    · intro j h3 h4
      have h5 : j < C.length := by rw [← hC A[i] (List.getElem_mem h2)]; exact h4
      simp only [negV, colQ, List.getElem_map, List.getElem_range, List.getD_eq_getElem?_getD, List.getElem?_map, List.getElem?_eq_getElem h2, Option.map_some, Option.getD_some, List.getElem?_eq_getElem h4, Rat.neg_neg]
def slackB (A : List (List Rat)) (B C x y : List Rat) : Bool :=
  (List.range B.length).all (fun i => decide (y.getD i 0 = 0) || decide (dotQ (A.getD i []) x = B.getD i 0)) && (List.range C.length).all (fun k => decide (x.getD k 0 = 0) || decide (dotQ (colQ A k) y = C.getD k 0))
end Go.Proofs.YtblpaocignlpkaaGreatDoor
namespace Go.Proofs.YtblpaocignlpkaaGreatDoor
open Go.RowKit
set_option linter.unusedVariables false
structure Sol where
  st : Int
  val : Raw
  X : List Raw
  D : List Raw
  R : List Raw
def IsSol (w : World) (S : Nat → Prop) (v : Value) (s : Sol) : Prop :=
  ∃ P k Q l A a B b C c, v = .agg #[.int .i64 s.st, .bool s.val.neg, .slice P s.val.num.length k, .slice Q s.val.den.length l, .slice A s.X.length a, .slice B s.D.length b, .slice C s.R.length c] ∧
    IsR w S (.agg #[.bool s.val.neg, .slice P s.val.num.length k, .slice Q s.val.den.length l]) s.val ∧ IsV w S (.slice A s.X.length a) s.X ∧ IsV w S (.slice B s.D.length b) s.D ∧ IsV w S (.slice C s.R.length c) s.R
theorem IsSol.stb : Stb IsSol := by
  rintro w w' S T v s ⟨P, k, Q, l, A, a, B, b, C, c, hv, h1, h2, h3, h4⟩ hs
  exact ⟨P, k, Q, l, A, a, B, b, C, c, hv, IsR.stb.to h1 hs, IsV.stb.to h2 hs, IsV.stb.to h3 hs, IsV.stb.to h4 hs⟩
def zav (v : List Raw) (n : Nat) : Bool := decide (v.length = n) && decide (chkV v = 0)
theorem zen {v : List Raw} {n : Nat} (h : zav v n = true) : n ≤ 40 ∧ ∃ q : List Rat, v = rawV q ∧ q.length = n ∧ ∀ x ∈ q, Sz x 1024 := by
  unfold zav at h
  rw [Bool.and_eq_true, decide_eq_true_eq, decide_eq_true_eq] at h
  obtain ⟨h1, q, rfl, h2⟩ := chkV_ok h.2
  exact ⟨by rw [← h.1]; exact h1, q, rfl, by rw [← h.1]; simp, h2⟩
theorem properB_of {q : List Rat} {n : Nat} (h1 : q.length = n) (hn : n ≤ 40) (h2 : ∀ x ∈ q, Sz x 1024) : zav (rawV q) n = true := by
  unfold zav
  rw [Bool.and_eq_true, decide_eq_true_eq, decide_eq_true_eq]
  exact ⟨by rw [zay, h1], chkV_raw (by rw [h1]; exact hn) h2⟩
set_option maxRecDepth 100000 in
set_option maxHeartbeats 1000000 in
theorem zbx {w : World} {v : Value} {l : List Raw} {n : Nat} (h : IsV w (Old w) v l) (hB : Bru w) (hn : n ≤ 9223372036854775807) :
    Calls Tryz.prog 201 #[v, .int .i64 (n : Int)] w fun e w' => e = .returned (.bool (zav l n)) ∧ Below w.heap.size w w' := by
  have H := Lib.hid h
  have HB := Lib.hid hB
  obtain ⟨A, c, rfl, hl⟩ := zau h
  obtain ⟨m, hm⟩ : ∃ m, m = l.length := ⟨_, rfl⟩
  rw [← hm] at H hl ⊢
  clear h hB
  by_cases hmn : m = n
  · have Hp : Hid (zav l n = decide (chkV l = 0)) := by rw [Hid, zav, ← hm, decide_eq_true hmn, Bool.true_and]
    have e0 : ((m : Int) == (n : Int)) = true := by rw [hmn]; simp
    obtain ⟨x, hx⟩ : ∃ x, x = chkV l := ⟨_, rfl⟩
    have Hx := Lib.hid hx
    clear hm hmn hx
    go_enter Tryz.func201, Tryz.ntmps201
    go_wp2_with fail
    refine (zfj H.out HB.out).mono ?_
    rw [← Hx.out]
    rintro e w1 ⟨rfl, hb⟩
    go_wp2_with fail
    go_ret
    refine ⟨?_, hb⟩
    show Ending.returned (.bool _) = _
    rw [Hp.out, ← Hx.out]
    rfl
  · have Hp : Hid (zav l n = false) := by rw [Hid, zav, ← hm, decide_eq_false hmn, Bool.false_and]
    have e0 : ((m : Int) == (n : Int)) = false := beq_eq_false_iff_ne.2 (by omega)
    clear hm hmn
    go_enter Tryz.func201, Tryz.ntmps201
    go_wp2_with fail
    go_ret
    refine ⟨?_, Below.refl _ _⟩
    show Ending.returned (.bool _) = _
    rw [Hp.out]
def zco (r : Raw) : Bool := decide (r = raw 0)
set_option maxRecDepth 100000 in
set_option maxHeartbeats 1000000 in
theorem nothing_l {w : World} {v : Value} {r : Raw} (h : IsR w (Old w) v r) (hB : Bru w) :
    Calls Tryz.prog 206 #[v] w fun e w' => e = .returned (.bool (zco r)) ∧ Below w.heap.size w w' := by
  have H := Lib.hid h
  have HB := Lib.hid hB
  obtain ⟨P, k, Q, l, rfl, _, _⟩ := h
  obtain ⟨w0, hw0, hb0, rA, Hz⟩ := zbm w #[.bool r.neg, .slice P r.num.length k, .slice Q r.den.length l] 31
  have HB0 := Lib.hid hb0
  have RA := Lib.hid rA
  obtain ⟨c0, c1, c2⟩ := zad rA
  obtain ⟨x, hx⟩ : ∃ x, x = chkQ r := ⟨_, rfl⟩
  have Hx := Lib.hid hx
  clear hb0 rA hB
  by_cases h0 : x = 0
  · obtain ⟨q, hq⟩ := chkQ_ok (by rw [← hx]; exact h0 : chkQ r = 0)
    subst h0
    have Hp : Hid ((sgnQ q == 0) = zco r) := by
      unfold Hid zco
      rw [hq]
      rcases Decidable.em (q = 0) with h | h
      · rw [h, decide_eq_true rfl, sgnQ_zero.2 rfl]; rfl
      · rw [decide_eq_false (fun e => h (raw_inj e)), beq_eq_false_iff_ne]
        exact fun e => h (sgnQ_zero.1 e)
    have Hq := Lib.hid hq
    clear hx hq
    go_enter Tryz.func206, Tryz.ntmps206
    go_wp2_with fail
    clear hw0
    refine (check_q (IsR.stb.to H.out (zag HB0.out)) (Bru.next HB.out HB0.out)).mono ?_
    rw [← Hx.out]
    rintro e w1 ⟨rfl, hb⟩
    have Hb1 := Lib.hid (zaa HB0.out hb)
    clear c0 c1 c2
    obtain ⟨c0, c1, c2⟩ := zad (RA.out.next hb)
    clear hb
    go_wp2_with fail
    refine (sign_q (q := q) (by have h := IsR.stb.to H.out (zag Hb1.out); rw [Hq.out] at h ⊢; exact h)).mono ?_
    rintro e w2 ⟨rfl, hb⟩
    go_wp2_with fail
    go_ret
    refine ⟨?_, zaa Hb1.out hb⟩
    show Ending.returned (.bool _) = _
    rw [← Hp.out]
  · have Hp : Hid (zco r = false) := by
      rw [Hid, zco, decide_eq_false]
      intro e
      exact h0 (by rw [hx, e]; exact chkQ_raw (Sz.zero.le (by omega)))
    have e0 : (x == 0) = false := beq_eq_false_iff_ne.2 h0
    clear hx h0
    go_enter Tryz.func206, Tryz.ntmps206
    go_wp2_with fail
    clear hw0
    refine (check_q (IsR.stb.to H.out (zag HB0.out)) (Bru.next HB.out HB0.out)).mono ?_
    rw [← Hx.out]
    rintro e w1 ⟨rfl, hb⟩
    go_wp2_with fail
    go_ret
    refine ⟨?_, zaa HB0.out hb⟩
    show Ending.returned (.bool _) = _
    rw [Hp.out]
abbrev Chk (w : World) (f : FuncId) (v : Value) (b : Bool) : Prop := ∀ W, Below w.heap.size w W → Calls Tryz.prog f #[v] W fun e w' => e = .returned (.bool b) ∧ Below W.heap.size W w'
set_option maxRecDepth 100000 in
set_option maxHeartbeats 1000000 in
theorem all_l {w : World} {g : Nat} {t : TypeId} {f1 f2 f3 : FuncId} {v : Value} {b1 b2 b3 : Bool} (hr : Row w g t [.func (.func f1) #[v] #[], .func (.func f2) #[v] #[], .func (.func f3) #[v] #[]])
    (hf1 : ∀ w, (callFunc f1 #[v]).run Tryz.prog w = .ok (.enter f1 #[v]) w) (hf2 : ∀ w, (callFunc f2 #[v]).run Tryz.prog w = .ok (.enter f2 #[v]) w) (hf3 : ∀ w, (callFunc f3 #[v]).run Tryz.prog w = .ok (.enter f3 #[v]) w)
    (h1 : Chk w f1 v b1) (h2 : b1 = true → Chk w f2 v b2) (h3 : b1 = true → b2 = true → Chk w f3 v b3) :
    Calls Tryz.prog 200 #[.slice (some ⟨g, 0, none⟩) 3 3] w fun e w' => e = .returned (.bool (b1 && b2 && b3)) ∧ Below w.heap.size w w' := by
  have HR := Lib.hid hr
  have H1 := Lib.hid h1
  have H2 := Lib.hid h2
  have H3 := Lib.hid h3
  clear hr h1 h2 h3
  go_enter Tryz.func200, Tryz.ntmps200
  go_wp2_with fail
  go_loopw [7] (fun i wr => ∃ k : Nat, k ≤ 3 ∧ i = .int .i64 (k : Int) ∧ Below w.heap.size w wr ∧ Hid ((0 < k → b1 = true) ∧ (1 < k → b2 = true) ∧ (2 < k → b3 = true))) (fun i _ => 3 - (intOf i).toNat)
  case atStart => exact ⟨0, by omega, rfl, Below.refl _ _, fun h => by omega, fun h => by omega, fun h => by omega⟩
  case round =>
    obtain ⟨k, hk, rfl, hbw, hrel⟩ := hrel
    have Hbw := Lib.hid hbw
    have Hrel := Lib.hid hrel.out
    obtain ⟨c0, c1, c2⟩ := zad (HR.out.next hbw)
    clear hrel hbw
    rcases (by omega : k = 0 ∨ k = 1 ∨ k = 2 ∨ k = 3) with rfl | rfl | rfl | rfl
    · cases b1
      all_goals
        go_wp2_with fail
        refine (H1.out _ Hbw.out).mono ?_
        rintro e w1 ⟨rfl, hb⟩
        have Hb1 := Lib.hid (zaa Hbw.out hb)
        clear hb
        go_wp2_with fail
      · go_ret
        exact ⟨rfl, Hb1.out⟩
      · go_roundw
        case rel => exact ⟨1, by omega, by go_num, Hb1.out, fun _ => by trivial, fun h => by omega, fun h => by omega⟩
        case measure => simp [intOf]
    · have e1 := Hrel.out.1 (by omega)
      subst e1
      cases b2
      all_goals
        go_wp2_with fail
        refine (H2.out (by trivial) _ Hbw.out).mono ?_
        rintro e w1 ⟨rfl, hb⟩
        have Hb1 := Lib.hid (zaa Hbw.out hb)
        clear hb
        go_wp2_with fail
      · go_ret
        exact ⟨rfl, Hb1.out⟩
      · go_roundw
        case rel => exact ⟨2, by omega, by go_num, Hb1.out, fun _ => by trivial, fun _ => by trivial, fun h => by omega⟩
        case measure => simp [intOf]
    · have e1 := Hrel.out.1 (by omega)
      have e2 := Hrel.out.2.1 (by omega)
      subst e1 e2
      cases b3
      all_goals
        go_wp2_with fail
        refine (H3.out (by trivial) (by trivial) _ Hbw.out).mono ?_
        rintro e w1 ⟨rfl, hb⟩
        have Hb1 := Lib.hid (zaa Hbw.out hb)
        clear hb
        go_wp2_with fail
      · go_ret
        exact ⟨rfl, Hb1.out⟩
      · go_roundw
        case rel => exact ⟨3, by omega, by go_num, Hb1.out, fun _ => by trivial, fun _ => by trivial, fun _ => by trivial⟩
        case measure => simp [intOf]
    · have e1 := Hrel.out.1 (by omega)
      have e2 := Hrel.out.2.1 (by omega)
      have e3 := Hrel.out.2.2 (by omega)
      subst e1 e2 e3
      go_wp2_with fail
      go_ret
      exact ⟨rfl, Hbw.out⟩
theorem same_grown {w w' : World} {g : Nat} {S : Nat → Prop} (hg : w.grownBy w' (some g)) (hS : ∀ b, S b → b < w.heap.size ∧ b ≠ g) : Same S S w w' := fun b hb => ⟨hb, fun o => World.cell?_of_block (hg.block b (hS b hb).1 (fun e => (hS b hb).2 (by cases e; rfl)))⟩
theorem zdr {w w' : World} {row : Option Nat} (hb : Below w.heap.size w w') : w.grownBy w' row := ⟨hb.os, hb.tape, hb.output, hb.size, fun k hk _ => hb.block k hk⟩
theorem zcn (w : World) (g o : Nat) (u : Value) : w.grownBy (w.setCell ⟨g, o, none⟩ u) (some g) :=
  ⟨rfl, rfl, rfl, by simp [World.setCell], fun k _ hk => Below.heap_setCell w ⟨g, o, none⟩ u k (fun e => hk (by rw [e]))⟩
theorem zee {a b c : World} {row : Option Nat} (h : a.grownBy b row) (hb : Below a.heap.size b c) : a.grownBy c row := ⟨hb.os.trans h.os, hb.tape.trans h.tape, hb.output.trans h.output, Nat.le_trans h.size hb.size, fun k hk hr => (hb.block k hk).trans (h.block k hk hr)⟩
theorem OwnS.slice {α : Type} {n : Nat} {t : TypeId} {R : World → (Nat → Prop) → Value → α → Prop} {w : World} {base : Nat} {S : Nat → Prop} {v : Value} {l : List α} (h : OwnS n t R w base S v l) : ∃ A c, v = .slice A l.length c := by
  obtain ⟨es, h1, _⟩ := h
  rcases h1.2 with ⟨h2, h3⟩ | ⟨g, cap, cur, h2, _⟩
  · exact ⟨none, 0, by rw [h2, h3]⟩
  · exact ⟨_, _, h2⟩
theorem OwnS.stepG {α : Type} {n : Nat} {t : TypeId} {R : World → (Nat → Prop) → Value → α → Prop} (hR : Stb R) {w w' : World} {base g : Nat} {S : Nat → Prop} {v : Value} {l : List α} (h : OwnS n t R w base S v l)
    (hb : w.grownBy w' (some g)) (hg : g < base) (hS : ∀ b, S b → b ≠ g) : OwnS n t R w' base S v l := by
  obtain ⟨es, h1, h2, h3, h4⟩ := h
  refine ⟨es, h1.kept hb (.inr fun e => by have := (h1.lt g e).1; omega), h2, h3.imp fun x y h => hR.to h (same_grown hb fun b hb' => ⟨(h4 b hb').1, hS b hb'⟩), fun b hb' => ⟨Nat.lt_of_lt_of_le (h4 b hb').1 hb.size, (h4 b hb').2⟩⟩
theorem vec_info : (Tryz.prog.info? 25).map (fun i => (i.zero, i.size, i.bytes)) = some (some (.slice none 0 0), 1, 24) := by kernel_rfl
theorem elV : ElN Tryz.prog 23 25 1 24 :=
  ⟨Tryz.underlying23, by obtain ⟨i, h1, h2, h3, h4⟩ := info_parts vec_info; exact ⟨i, _, h1, h2, h3, h4, rfl⟩, by omega⟩
abbrev zProg : Obj := .cells #[.slice none 0 0, .slice none 0 0, .slice none 0 0] 27
theorem finP {wB w5 X : World} {g : Nat} {a b c : Value} (hB : Below wB.heap.size wB w5) (hX : Below wB.heap.size wB X) (hr : Below (X.alloc zProg).heap.size (X.alloc zProg) w5) (hg : X.heap.size = g) :
    ∃ W, put3 w5 g a b c = W ∧ Below wB.heap.size wB W ∧ Row W g 27 [a, b, c] ∧ Hid (∀ S : Nat → Prop, (∀ b, S b → b < w5.heap.size ∧ b ≠ g) → Same S S w5 W) ∧ Hid (wB.heap.size ≤ g ∧ w5.heap.size ≤ W.heap.size) := by
  subst hg
  refine ⟨_, rfl, zaf hB hX a b c, Row.put3 (Row.next (heap_alloc_new X zProg) hr) a b c, fun S hS => zbw fun x hx => ⟨(hS x hx).2, hx⟩, hX.size, by rw [zcb]; exact Nat.le_refl _⟩
theorem finPL {wB w5 : World} {a b c : Value} (hB : Below wB.heap.size wB w5) :
    ∃ W, w5.alloc (.cells #[a, b, c] 27) = W ∧ Below wB.heap.size wB W ∧ Row W w5.heap.size 27 [a, b, c] ∧ Hid (∀ S : Nat → Prop, (∀ b, S b → b < w5.heap.size ∧ b ≠ w5.heap.size) → Same S S w5 W) ∧ Hid (wB.heap.size ≤ w5.heap.size ∧ w5.heap.size ≤ W.heap.size) :=
  ⟨_, rfl, zae hB _, heap_alloc_new w5 _, fun S hS b hb => ⟨hb, fun o => (zas w5 _).cell (p := ⟨b, o, none⟩) (hS b hb).1⟩, hB.size, by rw [World.size_alloc]; omega⟩
def SP (w w0 : World) (g : Nat) (W : World) (b : Nat) : Prop := (b < w.heap.size ∨ w0.heap.size ≤ b) ∧ b < W.heap.size ∧ b ≠ g
theorem same_fin {w w0 w4 : World} {g : Nat} {b c x y z : Value} (h0 : w.heap.size + 2 ≤ w0.heap.size) : Same (SP w w0 g w4) (Old (put3 ((w4.setCell ⟨g, 1, none⟩ b).setCell ⟨g, 2, none⟩ c) (w.heap.size + 1) x y z)) w4 (put3 ((w4.setCell ⟨g, 1, none⟩ b).setCell ⟨g, 2, none⟩ c) (w.heap.size + 1) x y z) := fun k hk => by
  have h1 : k ≠ w.heap.size + 1 := by have := hk.1; omega
  have h2 := hk.2.2
  refine ⟨by show k < _; rw [zcb]; simpa [World.setCell] using hk.2.1, fun o => ?_⟩
  rw [World.cell?_setCell_other _ _ _ _ (fun e => h1 (by cases e; rfl)), World.cell?_setCell_other _ _ _ _ (fun e => h1 (by cases e; rfl)), World.cell?_setCell_other _ _ _ _ (fun e => h1 (by cases e; rfl)),
    World.cell?_setCell_other _ _ _ _ (fun e => h2 (by cases e; rfl)), World.cell?_setCell_other _ _ _ _ (fun e => h2 (by cases e; rfl))]
theorem ret_prog {fn : Func} {slot : Tmp} {R : Ending → World → Prop} {a : Act} {w : World} {g : Nat} {x y z : Value} (hr : fn.results = #[.cell slot 27]) (ha : a.tmps.getD slot undef = .pointer (some ⟨g, 0, none⟩)) (hd : a.defers = [])
    (h : Row w g 27 [x, y, z]) (hR : R (.returned (.agg #[x, y, z])) w) : bodyPost Tryz.prog fn R .ret a w := by
  refine bodyPost_ret (v := .agg #[x, y, z]) ?_ hd hR
  obtain ⟨h0, h1, h2⟩ := zad h
  have ha' : a.tmps[slot]?.getD undef = .pointer (some ⟨g, 0, none⟩) := by simpa using ha
  simp [results, hr, ha', asAddr, go_sem, h0, h1, h2]
theorem results_prog2 {fn : Func} {slot t : Tmp} {tmps : Array Value} {w : World} {g : Nat} {x y z : Value} (hr : fn.results = #[.cell slot 27, .tmp t]) (ha : tmps.getD slot undef = .pointer (some ⟨g, 0, none⟩))
    (h : Row w g 27 [x, y, z]) : (results fn tmps).run Tryz.prog w = .ok (.tuple #[.agg #[x, y, z], tmps.getD t undef]) w := by
  obtain ⟨h0, h1, h2⟩ := zad h
  have ha' : tmps[slot]?.getD undef = .pointer (some ⟨g, 0, none⟩) := by simpa using ha
  simp [results, hr, ha', asAddr, go_sem, h0, h1, h2]
theorem isS_row {α : Type} {n : Nat} {R : World → (Nat → Prop) → Value → α → Prop} {w : World} {S : Nat → Prop} {g : Nat} {t : TypeId} {es : List Value} {l : List α} (h : Row w g t (cellsOf es)) (hg : S g) (hw : Wid n es) (ha : All2 (R w S) es l) (hl : l.length ≤ 9223372036854775807) :
    IsS n R w S (.slice (some ⟨g, 0, none⟩) l.length l.length) l := by
  refine ⟨_, _, es, rfl, Nat.le_refl _, by unfold maxLen; omega, fun _ => ⟨g, 0, rfl, hg, fun i u hu => ?_⟩, hw, ha⟩
  rw [Nat.zero_add]
  exact h.cell i |>.trans (by simpa using hu)
theorem all2_one {α β : Type} {R : α → β → Prop} {x : α} {y : β} (h : R x y) : All2 R [x] [y] := All2.snoc All2.nil h
theorem all2_two {α β : Type} {R : α → β → Prop} {x u : α} {y v : β} (h : R x y) (h2 : R u v) : All2 R [x, u] [y, v] := All2.snoc (a := [x]) (b := [y]) (all2_one h) h2
theorem isM_row1 {w : World} {g : Nat} {t : TypeId} {v : Value} {l : List Raw} (h : Row w g t [v]) (hv : IsV w (Old w) v l) : IsM w (Old w) (.slice (some ⟨g, 0, none⟩) 1 1) [l] := by
  obtain ⟨A, c, rfl, _⟩ := zau hv
  exact isS_row (es := [.slice A l.length c]) (l := [l]) h h.lt (by intro u hu; simp at hu; subst hu; rfl) (all2_one hv) (by simp)
theorem isM_row2 {w : World} {g : Nat} {t : TypeId} {v u : Value} {l m : List Raw} (h : Row w g t [v, u]) (hv : IsV w (Old w) v l) (hu : IsV w (Old w) u m) : IsM w (Old w) (.slice (some ⟨g, 0, none⟩) 2 2) [l, m] := by
  obtain ⟨A, c, rfl, _⟩ := zau hv
  obtain ⟨B, d, rfl, _⟩ := zau hu
  exact isS_row (es := [.slice A l.length c, .slice B m.length d]) (l := [l, m]) h h.lt (by intro u hu; simp at hu; rcases hu with rfl | rfl <;> rfl) (all2_two hv hu) (by simp)
def zbd (l : List Int) : List Rat := l.map fun x => zea x 1
theorem wholeQ_len (l : List Int) : (zbd l).length = l.length := List.length_map _
theorem wholeQ_snoc {l : List Int} {k : Nat} {x : Int} (h : l[k]? = some x) : (zbd l).take (k + 1) = (zbd l).take k ++ [zea x 1] := by
  refine zcj ?_
  unfold zbd
  rw [List.getElem?_map, h]
  rfl
def intsV (l : List Int) : List Value := l.map fun x => .int .i64 x
set_option maxRecDepth 100000 in
set_option maxHeartbeats 2000000 in
theorem zeq {w : World} {g c : Nat} {t : TypeId} {l : List Int} (hr : Row w g t (intsV l)) (hl : l.length ≤ 40) (hx : ∀ x ∈ l, x.natAbs ≤ 1000000) :
    Calls Tryz.prog 49 #[.slice (some ⟨g, 0, none⟩) l.length c] w fun e w' => (∃ v, e = .returned v ∧ IsV w' (New w.heap.size w') v (rawV (zbd l))) ∧ Below w.heap.size w w' := by
  have HR := Lib.hid hr
  have Hx := Lib.hid hx
  obtain ⟨n, hn⟩ : ∃ n, n = l.length := ⟨_, rfl⟩
  have Hn := Lib.hid hn
  rw [← hn] at hl ⊢
  have hgl : g < w.heap.size := hr.lt
  clear hr hx hn
  go_enter Tryz.func49, Tryz.ntmps49
  go_wp2_with fail
  go_loopw [3, 4] (fun v i wr => ∃ (k : Nat) (S : Nat → Prop), k ≤ n ∧ i = .int .i64 (k : Int) ∧ Below w.heap.size w wr ∧ OwnS 3 31 IsR wr w.heap.size S v (rawV ((zbd l).take k)) ∧ Hid (∀ b, S b → w.heap.size ≤ b)) (fun _ i _ => n - (intOf i).toNat)
  case atStart => exact ⟨0, fun _ => False, Nat.zero_le _, rfl, Below.refl _ _, by simpa [rawV] using (OwnS.nil (fun b h => False.elim h) : OwnS 3 31 IsR w w.heap.size (fun _ => False) _ _), fun _ h => False.elim h⟩
  case round =>
    obtain ⟨k, S, hk, rfl, hbw, hown, hS⟩ := hrel
    have Hbw := Lib.hid hbw
    have HS := Lib.hid hS.out
    have Hown := Lib.hid hown
    have hsz := hbw.size
    clear hown hS
    rcases Nat.lt_or_ge k n with hlt | hge
    · obtain ⟨x, hxk⟩ := zcs (l := l) (j := k) (by rw [← Hn.out]; exact hlt)
      have hc : wr.cell? ⟨g, k, none⟩ = some (.int .i64 x) := ((HR.out.next hbw).cell k).trans (by unfold intsV; rw [List.getElem?_map, hxk]; rfl)
      have Hxk := Lib.hid hxk
      have hx9 := Hx.out x (List.mem_of_getElem? hxk)
      clear hxk hbw
      go_wp2_with fail
      refine (ratof_q (a := x) (b := 1) (by omega) (by omega) (by omega)).mono ?_
      rintro e w2 ⟨⟨v2, rfl, hv2⟩, hb⟩
      have Hb2 := Lib.hid hb
      have Hv2 := Lib.hid hv2
      have Hbs := Lib.hid (zaa Hbw.out hb)
      have hbase : w.heap.size ≤ w2.heap.size := Hbs.out.size
      obtain ⟨s2, P2, k2, O2, l2, rfl, _, _, _⟩ := zan hv2
      have hown2 := OwnS.step IsR.stb (T := fun b => S b ∨ (wr.heap.size ≤ b ∧ b < w2.heap.size)) Hown.out Hb2.out (fun b h => .inl h) (fun b h => h)
      have hel2 := IsQ.stb.to Hv2.out (zat (T := fun b => S b ∨ (wr.heap.size ≤ b ∧ b < w2.heap.size)) fun b h => .inr h)
      clear hb hv2 hc
      go_wp2_with (at_builtin; refine wp_appS elR rfl _ _ rfl IsR.stb rfl rfl rfl hown2 hel2 rfl (by intro u hu; simp [Value.cells] at hu; rcases hu with rfl | rfl | rfl <;> rfl) (by have h1 := List.length_take_le k (zbd l); rw [zay]; omega) hbase ?_; intro v3 w3 hown3 hb3 hz3)
      go_roundw
      case rel =>
        refine ⟨k + 1, fun b => S b ∨ (wr.heap.size ≤ b ∧ b < w2.heap.size), by omega, by go_num, Hbs.out.trans hb3, ?_, fun b hb => by rcases hb with hb | hb; exact HS.out b hb; omega⟩
        rw [wholeQ_snoc Hxk.out, rawV, List.map_append]
        exact hown3
      case measure => simp [intOf]; omega
    · obtain rfl : k = n := by omega
      clear hbw
      go_wp2_with fail
      go_ret
      refine ⟨⟨_, rfl, ?_⟩, Hbw.out⟩
      have h1 := OwnS.isS IsR.stb (T := New w.heap.size wr) Hown.out (fun b hb => ⟨HS.out b hb, by obtain ⟨_, _, _, _, h4⟩ := Hown.out; exact (h4 b hb).1⟩) (fun b h1 h2 => ⟨h1, h2⟩)
      rw [List.take_of_length_le (by rw [wholeQ_len, ← Hn.out]; exact Nat.le_refl _)] at h1
      exact h1
def exQ : ProgQ := ⟨[zbd [1, 1], zbd [1, 3]], zbd [4, 6], zbd [3, 2]⟩
set_option maxRecDepth 100000 in
set_option maxHeartbeats 2000000 in
theorem example_l (w : World) : Calls Tryz.prog 48 #[] w fun e w' => (∃ v, e = .returned v ∧ IsP w' (Old w') v (rawP exQ)) ∧ Below w.heap.size w w' := by
  obtain ⟨w0, hw0, hb0, rZ, Hz⟩ := zbm w #[.slice none 0 0, .slice none 0 0, .slice none 0 0] 27
  have RZ := Lib.hid rZ
  have HB := Lib.hid hb0
  clear rZ hb0
  go_enter Tryz.func48, Tryz.ntmps48
  go_wp2_with fail
  clear hw0
  refine (zeq (w := w0.alloc (.cells #[.int .i64 1, .int .i64 1] 3)) (l := [1, 1]) (heap_alloc_new w0 _) (by decide) (by decide)).mono ?_
  rintro e w1 ⟨⟨va, rfl, hv⟩, hb⟩
  have hb' := zaa (zas w0 _) hb
  have hs := Lib.hid HB.out.size
  have HB := Lib.hid (zaa HB.out hb')
  have RZ := Lib.hid (RZ.out.next hb')
  have Va := Lib.hid (IsV.stb.le hv (m := w.heap.size + 1) (by have h1 := HB.out.size; have h2 := Hz.out; have h3 := hb'.size; rw [World.size_alloc]; have h4 := hs.out; omega))
  obtain ⟨Pa, ka, rfl, _⟩ := zau hv
  clear hv hb hb'
  go_wp2_with fail
  refine (zeq (w := w1.alloc (.cells #[.int .i64 1, .int .i64 3] 3)) (l := [1, 3]) (heap_alloc_new w1 _) (by decide) (by decide)).mono ?_
  rintro e w2 ⟨⟨vb, rfl, hv⟩, hb⟩
  have hb' := zaa (zas w1 _) hb
  have Va := Lib.hid (IsV.stb.fresh Va.out hb')
  have hs := Lib.hid HB.out.size
  have HB := Lib.hid (zaa HB.out hb')
  have RZ := Lib.hid (RZ.out.next hb')
  have Vb := Lib.hid (IsV.stb.le hv (m := w.heap.size + 1) (by have h1 := HB.out.size; have h2 := Hz.out; have h3 := hb'.size; rw [World.size_alloc]; have h4 := hs.out; omega))
  obtain ⟨Pb, kb, rfl, _⟩ := zau hv
  clear hv hb hb'
  have hl2 := Lib.hid RZ.out.lt
  obtain ⟨wm, hwm, hbm, rm, Hzm⟩ := zbm w2 #[.slice Pa (rawV (zbd [1, 1])).length ka, .slice Pb (rawV (zbd [1, 3])).length kb] 25
  have Va := Lib.hid (IsV.stb.fresh Va.out hbm)
  have Vb := Lib.hid (IsV.stb.fresh Vb.out hbm)
  have hs := Lib.hid HB.out.size
  have HB := Lib.hid (zaa HB.out hbm)
  have RZ := Lib.hid (RZ.out.next hbm)
  have VM : Hid (IsM wm (New (w.heap.size + 1) wm) (.slice (some ⟨w2.heap.size, 0, none⟩) 2 2) (rawM [zbd [1, 1], zbd [1, 3]])) := isS_row (es := [.slice Pa (rawV (zbd [1, 1])).length ka, .slice Pb (rawV (zbd [1, 3])).length kb]) (l := [rawV (zbd [1, 1]), rawV (zbd [1, 3])]) rm ⟨hl2.out, rm.lt⟩ (by intro u hu; simp at hu; rcases hu with rfl | rfl <;> rfl) (all2_two Va.out Vb.out) (by simp)
  clear hbm rm
  go_wp2_with fail
  clear hwm
  refine (zeq (w := wm.alloc (.cells #[.int .i64 4, .int .i64 6] 3)) (l := [4, 6]) (heap_alloc_new wm _) (by decide) (by decide)).mono ?_
  rintro e w3 ⟨⟨vc, rfl, hv⟩, hb⟩
  have hb' := zaa (zas wm _) hb
  have Va := Lib.hid (IsV.stb.fresh Va.out hb')
  have Vb := Lib.hid (IsV.stb.fresh Vb.out hb')
  have VM := Lib.hid (IsM.stb.fresh VM.out hb')
  have hs := Lib.hid HB.out.size
  have HB := Lib.hid (zaa HB.out hb')
  have RZ := Lib.hid (RZ.out.next hb')
  have Vc := Lib.hid (IsV.stb.le hv (m := w.heap.size + 1) (by have h1 := HB.out.size; have h2 := Hz.out; have h3 := hb'.size; rw [World.size_alloc]; have h4 := hs.out; omega))
  obtain ⟨Pc, kc, rfl, _⟩ := zau hv
  clear hv hb hb'
  go_wp2_with fail
  refine (zeq (w := w3.alloc (.cells #[.int .i64 3, .int .i64 2] 3)) (l := [3, 2]) (heap_alloc_new w3 _) (by decide) (by decide)).mono ?_
  rintro e w4 ⟨⟨vd, rfl, hv⟩, hb⟩
  have hb' := zaa (zas w3 _) hb
  have Va := Lib.hid (IsV.stb.fresh Va.out hb')
  have Vb := Lib.hid (IsV.stb.fresh Vb.out hb')
  have VM := Lib.hid (IsM.stb.fresh VM.out hb')
  have Vc := Lib.hid (IsV.stb.fresh Vc.out hb')
  have hs := Lib.hid HB.out.size
  have HB := Lib.hid (zaa HB.out hb')
  have RZ := Lib.hid (RZ.out.next hb')
  have Vd := Lib.hid (IsV.stb.le hv (m := w.heap.size + 1) (by have h1 := HB.out.size; have h2 := Hz.out; have h3 := hb'.size; rw [World.size_alloc]; have h4 := hs.out; omega))
  obtain ⟨Pd, kd, rfl, _⟩ := zau hv
  clear hv hb hb'
  obtain ⟨z0, z1, z2⟩ := zad RZ.out
  obtain ⟨f0, f1, f2⟩ := zax RZ.out
  go_wp2_with fail
  refine ret_prog Tryz.results48 rfl rfl (Row.put3 RZ.out _ _ _) ?_
  have same : ∀ x y z : Value, Same (New (w.heap.size + 1) w4) (Old (put3 w4 w.heap.size x y z)) w4 (put3 w4 w.heap.size x y z) := fun x y z => zbw fun b h => ⟨by have := h.1; omega, by show b < _; rw [zcb]; exact h.2⟩
  exact ⟨⟨_, rfl, isP_mk (p := rawP exQ) (IsM.stb.to VM.out (same _ _ _)) (IsV.stb.to Vc.out (same _ _ _)) (IsV.stb.to Vd.out (same _ _ _))⟩, zbn HB.out (Nat.le_refl _) _ _ _⟩
def bestS : Sol := ⟨1, raw (zea 12 1), rawV (zbd [4, 0]), rawV (zbd [3, 0]), []⟩
abbrev put7 (w : World) (g : Nat) (a b c d e f h : Value) : World := ((((((w.setCell ⟨g, 0, none⟩ a).setCell ⟨g, 1, none⟩ b).setCell ⟨g, 2, none⟩ c).setCell ⟨g, 3, none⟩ d).setCell ⟨g, 4, none⟩ e).setCell ⟨g, 5, none⟩ f).setCell ⟨g, 6, none⟩ h
theorem Row.put7 {w : World} {g : Nat} {t : TypeId} {a b c d e f h : Value} (r : Row w g t [a, b, c, d, e, f, h]) (a' b' c' d' e' f' h' : Value) : Row (Go.Proofs.YtblpaocignlpkaaGreatDoor.put7 w g a' b' c' d' e' f' h') g t [a', b', c', d', e', f', h'] := ((((((r.set_ 0 a').set_ 1 b').set_ 2 c').set_ 3 d').set_ 4 e').set_ 5 f').set_ 6 h'
theorem size_put7 (w : World) (g : Nat) (a b c d e f h : Value) : (put7 w g a b c d e f h).heap.size = w.heap.size := by simp [put7, World.setCell]
theorem same_put7 {w : World} {g : Nat} {S T : Nat → Prop} {a b c d e f i : Value} (h : ∀ x, S x → x ≠ g ∧ T x) : Same S T w (put7 w g a b c d e f i) := fun x hx => by
  have := h x hx
  refine ⟨this.2, fun o => ?_⟩
  rw [World.cell?_setCell_other _ _ _ _ (fun e => this.1 (by cases e; rfl)), World.cell?_setCell_other _ _ _ _ (fun e => this.1 (by cases e; rfl)), World.cell?_setCell_other _ _ _ _ (fun e => this.1 (by cases e; rfl)), World.cell?_setCell_other _ _ _ _ (fun e => this.1 (by cases e; rfl)),
    World.cell?_setCell_other _ _ _ _ (fun e => this.1 (by cases e; rfl)), World.cell?_setCell_other _ _ _ _ (fun e => this.1 (by cases e; rfl)), World.cell?_setCell_other _ _ _ _ (fun e => this.1 (by cases e; rfl))]
theorem below_put7 {w w1 : World} {n g : Nat} (h : Below n w w1) (hg : n ≤ g) (a b c d e f i : Value) : Below n w (put7 w1 g a b c d e f i) :=
  ((((((h.setCell (p := ⟨g, 0, none⟩) hg a).setCell (p := ⟨g, 1, none⟩) hg b).setCell (p := ⟨g, 2, none⟩) hg c).setCell (p := ⟨g, 3, none⟩) hg d).setCell (p := ⟨g, 4, none⟩) hg e).setCell (p := ⟨g, 5, none⟩) hg f).setCell (p := ⟨g, 6, none⟩) hg i
theorem ret_sol {fn : Func} {slot : Tmp} {R : Ending → World → Prop} {a : Act} {w : World} {g : Nat} {x y z u v s t : Value} (hr : fn.results = #[.cell slot 33]) (ha : a.tmps.getD slot undef = .pointer (some ⟨g, 0, none⟩)) (hd : a.defers = [])
    (h : Row w g 33 [x, y, z, u, v, s, t]) (hR : R (.returned (.agg #[x, y, z, u, v, s, t])) w) : bodyPost Tryz.prog fn R .ret a w := by
  refine bodyPost_ret (v := .agg #[x, y, z, u, v, s, t]) ?_ hd hR
  have h0 := h.cell 0
  have h1 := h.cell 1
  have h2 := h.cell 2
  have h3 := h.cell 3
  have h4 := h.cell 4
  have h5 := h.cell 5
  have h6 := h.cell 6
  simp at h0 h1 h2 h3 h4 h5 h6
  have ha' : a.tmps[slot]?.getD undef = .pointer (some ⟨g, 0, none⟩) := by simpa using ha
  simp [results, hr, ha', asAddr, go_sem, h0, h1, h2, h3, h4, h5, h6]
set_option maxRecDepth 100000 in
set_option maxHeartbeats 2000000 in
theorem best_l (w : World) : Calls Tryz.prog 50 #[] w fun e w' => (∃ v, e = .returned v ∧ IsSol w' (Old w') v bestS) ∧ Below w.heap.size w w' := by
  obtain ⟨w0, hw0, hb0, rZ, Hz⟩ := zbm w #[.int .i64 0, .bool false, .slice none 0 0, .slice none 0 0, .slice none 0 0, .slice none 0 0, .slice none 0 0] 33
  have RZ := Lib.hid rZ
  have HB := Lib.hid hb0
  clear rZ hb0
  go_enter Tryz.func50, Tryz.ntmps50
  go_wp2_with fail
  clear hw0
  refine (ratof_q (a := 12) (b := 1) (by omega) (by omega) (by omega)).mono ?_
  rintro e w1 ⟨⟨vq, rfl, hv⟩, hb⟩
  have hs := Lib.hid HB.out.size
  have HB := Lib.hid (zaa HB.out hb)
  have RZ := Lib.hid (RZ.out.next hb)
  have VQ := Lib.hid (IsQ.stb.le hv (m := w.heap.size + 1) (by have h2 := Hz.out; omega))
  obtain ⟨sq, Pq, kq, Oq, lq, rfl, hnq, _, _⟩ := zan hv
  clear hv hb
  go_wp2_with fail
  refine (zeq (w := w1.alloc (.cells #[.int .i64 4, .int .i64 0] 3)) (l := [4, 0]) (heap_alloc_new w1 _) (by decide) (by decide)).mono ?_
  rintro e w2 ⟨⟨va, rfl, hv⟩, hb⟩
  have hb' := zaa (zas w1 _) hb
  have VQ := Lib.hid (IsQ.stb.fresh VQ.out hb')
  have hs := Lib.hid HB.out.size
  have HB := Lib.hid (zaa HB.out hb')
  have RZ := Lib.hid (RZ.out.next hb')
  have Va := Lib.hid (IsV.stb.le hv (m := w.heap.size + 1) (by have h1 := HB.out.size; have h2 := Hz.out; have h3 := hb'.size; rw [World.size_alloc]; have h4 := hs.out; omega))
  obtain ⟨Pa, ka, rfl, _⟩ := zau hv
  clear hv hb hb'
  go_wp2_with fail
  refine (zeq (w := w2.alloc (.cells #[.int .i64 3, .int .i64 0] 3)) (l := [3, 0]) (heap_alloc_new w2 _) (by decide) (by decide)).mono ?_
  rintro e w3 ⟨⟨vb, rfl, hv⟩, hb⟩
  have hb' := zaa (zas w2 _) hb
  have VQ := Lib.hid (IsQ.stb.fresh VQ.out hb')
  have Va := Lib.hid (IsV.stb.fresh Va.out hb')
  have hs := Lib.hid HB.out.size
  have HB := Lib.hid (zaa HB.out hb')
  have RZ := Lib.hid (RZ.out.next hb')
  have Vb := Lib.hid (IsV.stb.le hv (m := w.heap.size + 1) (by have h1 := HB.out.size; have h2 := Hz.out; have h3 := hb'.size; rw [World.size_alloc]; have h4 := hs.out; omega))
  obtain ⟨Pb, kb, rfl, _⟩ := zau hv
  clear hv hb hb'
  have z0 := RZ.out.cell 0
  have f0 := RZ.out.frozen 0
  have z1 := RZ.out.cell 1
  have f1 := RZ.out.frozen 1
  have z2 := RZ.out.cell 2
  have f2 := RZ.out.frozen 2
  have z3 := RZ.out.cell 3
  have f3 := RZ.out.frozen 3
  have z4 := RZ.out.cell 4
  have f4 := RZ.out.frozen 4
  have z5 := RZ.out.cell 5
  have f5 := RZ.out.frozen 5
  have z6 := RZ.out.cell 6
  have f6 := RZ.out.frozen 6
  simp at z0 z1 z2 z3 z4 z5 z6
  go_wp2_with fail
  refine ret_sol Tryz.results50 rfl rfl (Row.put7 RZ.out _ _ _ _ _ _ _) ?_
  have same : ∀ x y z u v s t : Value, Same (New (w.heap.size + 1) w3) (Old (put7 w3 w.heap.size x y z u v s t)) w3 (put7 w3 w.heap.size x y z u v s t) := fun x y z u v s t => same_put7 fun b h => ⟨by have := h.1; omega, by show b < _; rw [size_put7]; exact h.2⟩
  have hsq : sq = (raw (zea 12 1)).neg := hnq.out
  exact ⟨⟨_, rfl, ⟨Pq, kq, Oq, lq, Pa, ka, Pb, kb, none, 0, by rw [hsq]; rfl, by have h := IsQ.stb.to VQ.out (same (.int .i64 1) (.bool sq) (.slice Pq (lim (zea 12 1).num.natAbs).length kq) (.slice Oq (lim (zea 12 1).den).length lq) (.slice Pa (rawV (zbd [4, 0])).length ka) (.slice Pb (rawV (zbd [3, 0])).length kb) (.slice none 0 0)); rw [hsq] at h ⊢; exact h, IsV.stb.to Va.out (same _ _ _ _ _ _ _), IsV.stb.to Vb.out (same _ _ _ _ _ _ _), IsS.nil⟩⟩, below_put7 HB.out (Nat.le_refl _) _ _ _ _ _ _ _⟩
def sameR (a b : Raw) : Bool := decide (a.neg = b.neg) && decide (a.num = b.num) && decide (a.den = b.den)
theorem sameR_iff {a b : Raw} : sameR a b = true ↔ a = b := by
  unfold sameR
  rw [Bool.and_eq_true, Bool.and_eq_true, decide_eq_true_eq, decide_eq_true_eq, decide_eq_true_eq]
  obtain ⟨x, y, z⟩ := a
  obtain ⟨u, v, t⟩ := b
  simp [and_assoc]
theorem sameR_eq {a b : Raw} : sameR a b = decide (a = b) := by
  rw [Bool.eq_iff_iff, sameR_iff, decide_eq_true_eq]
theorem isK_l {k : IntKind} {w : World} {v : Value} {l : List Nat} (h : IsK k w (Old w) v l) : IsL k w 0 w.heap.size v l := h.isL fun b hb => ⟨Nat.zero_le _, hb⟩
set_option maxRecDepth 100000 in
set_option maxHeartbeats 1000000 in
theorem same_r {w : World} {va vb : Value} {a b : Raw} (ha : IsR w (Old w) va a) (hb : IsR w (Old w) vb b) :
    Calls Tryz.prog 21 #[va, vb] w fun e w' => e = .returned (.bool (decide (a = b))) ∧ Below w.heap.size w w' := by
  rw [← sameR_eq]
  obtain ⟨A1, c1, A2, c2, rfl, hA1, hA2⟩ := ha
  obtain ⟨B1, d1, B2, d2, rfl, hB1, hB2⟩ := hb
  have HA1 := Lib.hid hA1
  have HA2 := Lib.hid hA2
  have HB1 := Lib.hid hB1
  have HB2 := Lib.hid hB2
  unfold sameR
  obtain ⟨b1, hb1⟩ : ∃ x, x = decide (a.neg = b.neg) := ⟨_, rfl⟩
  obtain ⟨b2, hb2⟩ : ∃ x, x = decide (a.num = b.num) := ⟨_, rfl⟩
  obtain ⟨b3, hb3⟩ : ∃ x, x = decide (a.den = b.den) := ⟨_, rfl⟩
  have p1 : (a.neg == b.neg) = b1 := by rw [hb1]; cases a.neg <;> cases b.neg <;> rfl
  rw [← hb1, ← hb2, ← hb3]
  have Hb2 := Lib.hid hb2
  have Hb3 := Lib.hid hb3
  clear hb1 hb2 hb3 hA1 hA2 hB1 hB2
  obtain ⟨w0, hw0, hb0, rA, rB, Hz⟩ := zcl w #[.bool a.neg, .slice A1 a.num.length c1, .slice A2 a.den.length c2] #[.bool b.neg, .slice B1 b.num.length d1, .slice B2 b.den.length d2] 31 31
  have HB0 := Lib.hid hb0
  obtain ⟨x0, x1, x2⟩ := zad rA
  obtain ⟨y0, y1, y2⟩ := zad rB
  clear hb0 rA rB
  cases b1 with
  | false =>
    go_enter Tryz.func21, Tryz.ntmps21
    go_wp2_with fail
    go_ret
    exact ⟨rfl, HB0.out⟩
  | true =>
    cases b2 with
    | false =>
      go_enter Tryz.func21, Tryz.ntmps21
      go_wp2_with fail
      clear hw0
      refine (alike_l (isK_l (IsK.stb.to HA1.out (zag HB0.out))) (isK_l (IsK.stb.to HB1.out (zag HB0.out)))).mono ?_
      rw [← Hb2.out]
      rintro e w1 ⟨rfl, hd⟩
      have hb := hd.below w0.heap.size
      have HB1' := Lib.hid (zaa HB0.out hb)
      go_wp2_with fail
      go_ret
      exact ⟨rfl, HB1'.out⟩
    | true =>
      cases b3
      all_goals
        go_enter Tryz.func21, Tryz.ntmps21
        go_wp2_with fail
        clear hw0
        refine (alike_l (isK_l (IsK.stb.to HA1.out (zag HB0.out))) (isK_l (IsK.stb.to HB1.out (zag HB0.out)))).mono ?_
        rw [← Hb2.out]
        rintro e w1 ⟨rfl, hd⟩
        have hb := hd.below w0.heap.size
        have HB1' := Lib.hid (zaa HB0.out hb)
        replace x2 := zab hb x2
        replace y2 := zab hb y2
        clear hb hd
        go_wp2_with fail
        refine (alike_l (isK_l (IsK.stb.to HA2.out (zag HB1'.out))) (isK_l (IsK.stb.to HB2.out (zag HB1'.out)))).mono ?_
        rw [← Hb3.out]
        rintro e w2 ⟨rfl, hd⟩
        have hb := hd.below w1.heap.size
        have HB2' := Lib.hid (zaa HB1'.out hb)
        clear hb hd
        go_wp2_with fail
        go_ret
        exact ⟨rfl, HB2'.out⟩
end Go.Proofs.YtblpaocignlpkaaGreatDoor
