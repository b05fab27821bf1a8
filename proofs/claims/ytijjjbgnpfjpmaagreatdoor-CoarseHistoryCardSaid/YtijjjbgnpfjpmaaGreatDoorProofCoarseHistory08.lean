/-
  The zaf of package coarse's History, at forms and lists of profiles that are right.
-/
import Derived.Test.YtijjjbgnpfjpmaaGreatDoorProofCoarseHistory07
import Derived.Test.YtijjjbgnpfjpmaaGreatDoorProofCoarseHistory05
import Derived.Test.YtijjjbgnpfjpmaaGreatDoorProofCoarseHistory06
import Derived.Test.YtijjjbgnpfjpmaaGreatDoorProofCoarseHistory04
import Derived.Test.YtijjjbgnpfjpmaaGreatDoorProofCoarseHistory03
import Derived.Test.YtijjjbgnpfjpmaaGreatDoorCoh04
import Derived.Test.YtijjjbgnpfjpmaaGreatDoorCoh01
import Derived.Test.YtijjjbgnpfjpmaaGreatDoorChecked
import Derived.WalkKit
namespace Go.Proofs.YtijjjbgnpfjpmaaGreatDoor
open Go.RowKit Go.Shelf
attribute [local go_sem] Oper.semAt_some
set_option linter.unusedVariables false
theorem wrap64_small (k : Nat) (h : k ≤ 30) : wrap64 ((k : Int) + 1) = (k : Int) + 1 := by
  unfold wrap64
  omega
theorem sum_mem {l : List Nat} {x : Nat} (h : x ∈ l) : x ≤ l.sum := by
  induction l with
  | nil => cases h
  | cons y l ih =>
    rw [List.sum_cons]
    rcases List.mem_cons.1 h with rfl | h
    · omega
    · have := ih h; omega
theorem ent_mem {s : Nat} {m : List (Q4 × Nat)} {x : MapEntry} (h : x ∈ ent s m) : ∃ j q c, m[j]? = some (q, c) ∧ x = ⟨kv q, .int .i64 (c : Nat), s + j⟩ := by
  induction m generalizing s with
  | nil => cases h
  | cons a l ih =>
    obtain ⟨p, d⟩ := a
    rw [ent] at h
    rcases List.mem_cons.1 h with rfl | h
    · exact ⟨0, p, d, rfl, rfl⟩
    · obtain ⟨j, q, c, h1, h2⟩ := ih h
      exact ⟨j + 1, q, c, by simpa using h1, by rw [h2, show s + 1 + j = s + (j + 1) by omega]⟩
theorem ent_born (s : Nat) (m : List (Q4 × Nat)) : (ent s m).map (·.born) = List.range' s m.length := by
  induction m generalizing s with
  | nil => rfl
  | cons a l ih => obtain ⟨p, d⟩ := a; rw [ent, List.map_cons, ih, List.length_cons, List.range'_succ]
theorem ent_hold {m : List (Q4 × Nat)} : ∀ x ∈ (ent 0 m).toArray.toList, x.born < m.length := fun x hx => by
  obtain ⟨j, q, c, h1, rfl⟩ := ent_mem (by simpa using hx)
  have := (List.getElem?_eq_some_iff.1 h1).1
  show 0 + j < m.length
  omega
theorem ent_nodup (m : List (Q4 × Nat)) : ((ent 0 m).toArray.toList.map (·.born)).Nodup := by
  rw [show (ent 0 m).toArray.toList = ent 0 m from rfl, ent_born]
  exact List.nodup_range'
theorem left_none {m : List (Q4 × Nat)} {seen : Array Nat} (h : (leftOf (ent 0 m).toArray seen).size = 0) {j : Nat} (hj : j < m.length) : j ∈ seen.toList := by
  have he := ent_at 0 m (i := j) (q := m[j].1) (c := m[j].2) (by rw [List.getElem?_eq_getElem hj])
  rw [Nat.zero_add] at he
  have h0 : leftOf (ent 0 m).toArray seen = #[] := Array.eq_empty_of_size_eq_zero h
  unfold leftOf at h0
  rw [Array.filter_eq_empty_iff] at h0
  have := h0 _ (by simpa using List.mem_of_getElem? he)
  simpa using this
theorem left_some {m : List (Q4 × Nat)} {seen : Array Nat} {e : MapEntry} (h : e ∈ (leftOf (ent 0 m).toArray seen).toList) : ∃ j q c, m[j]? = some (q, c) ∧ e = ⟨kv q, .int .i64 (c : Nat), j⟩ ∧ j ∉ seen.toList := by
  unfold leftOf at h
  have h1 : e ∈ ent 0 m ∧ ¬ e.born ∈ seen.toList := by simpa using h
  obtain ⟨j, q, c, h2, rfl⟩ := ent_mem h1.1
  exact ⟨j, q, c, h2, by rw [Nat.zero_add], by simpa using h1.2⟩
def MpI (w1 : World) (sz : List Nat) (n : Nat) (m : List (Q4 × Nat)) (F mb Cm it G E : Nat) (fs5 : List Value) (seen : Array Nat) (wr : World) : Prop := ∃ (es : List (Q4 × Nat)) (fs : List Value),
  wr.heap[it]? = some (.mapIter (some mb) m.length seen m.length) ∧ IsMp wr mb m ∧ RowE wr G 150 fs ∧ All2 (IsF wr) fs (dsOf sz n es) ∧ Row wr F 137 fs5 ∧ Row wr (Cm + 1) 3 [.int .i64 (n : Nat)] ∧
    Below w1.heap.size w1 wr ∧ wr.heap[E]? = some (.deferred (some [])) ∧ All2 (fun s e => m[s]? = some e) seen.toList es ∧ seen.toList.Nodup
def HiI (w1 : World) (ll : List (List Nat)) (Bx F mb Cm : Nat) (ls fs : List Value) (vl : Value) (k : Nat) (W : World) : Prop :=
  Below w1.heap.size w1 W ∧ Row W Bx 134 ls ∧ Row W (Bx + 1) 66 [vl] ∧ Row W F 137 fs ∧ Row W (F + 1) 38 [.int .i64 0] ∧
    Row W Cm 140 [.map (some mb)] ∧ Row W (Cm + 1) 3 [.int .i64 (k : Nat)] ∧ IsMp W mb (zdc ((ll.take k).map q4))
theorem HiI.next {w1 : World} {ll : List (List Nat)} {Bx F mb Cm : Nat} {ls fs : List Value} {vl : Value} {k : Nat} {W W' : World} (h : HiI w1 ll Bx F mb Cm ls fs vl k W) (hb : Below W.heap.size W W') : HiI w1 ll Bx F mb Cm ls fs vl k W' := by
  obtain ⟨i1, i2, i3, i4, i5, i6, i7, i8⟩ := h
  exact ⟨zaa i1 hb, i2.next hb, i3.next hb, i4.next hb, i5.next hb, i6.next hb, i7.next hb, (hb.block _ (zag i8)).trans i8⟩
theorem same_dput {X : World} {E : Nat} {d : Option (List Deferred)} (h : X.heap[E]? = some (.deferred d)) : Same (Old X) (Old (X.putObj E (.deferred none))) X (X.putObj E (.deferred none)) := fun b hb => by
  have hl : E < X.heap.size := zag h
  refine ⟨by show b < (X.putObj E (.deferred none)).heap.size; simp [World.putObj]; exact hb, fun o => ?_⟩
  by_cases hbE : b = E
  · subst hbE
    have h2 : (X.putObj b (.deferred none)).heap[b]? = some (.deferred none) := World.putObj_heap_same hl
    unfold World.cell?
    rw [h, h2]
  · exact World.cell?_of_block (World.putObj_heap_other hbE)
def RetHi (w : World) (l : List Rat) (e : Ending) (w' : World) : Prop := (∃ v, e = .returned (.tuple #[v, .int .i64 0]) ∧ IsV w' (Old w') v (l.map raw)) ∧ Below w.heap.size w w'
set_option maxRecDepth 100000 in
set_option maxHeartbeats 4000000 in
theorem hist_a {w : World} {v vl : Value} {sz : List Nat} {ps : List (List Rat)} {ll : List (List Nat)} (h : IsNF w v sz ps) (ok : NFok sz ps) (hp : IsPl w vl ll) (okl : PlOk sz ll) (h1 : 1 ≤ ll.length) (h30 : ll.length ≤ 30) (hB : Bru w) (hq : ∀ q ∈ zaz sz ll, L1Q q) : Calls Tryz.prog 33 #[v, vl] w (RetHi w (zaz sz ll)) := by
  have H := Lib.hid h
  have HQ1 := Lib.hid hq
  clear hq
  obtain ⟨A, c, B, b, rfl, h1', h2⟩ := h
  have H1 := Lib.hid h1'
  have HP := Lib.hid hp
  have OK := Lib.hid ok
  have OKl := Lib.hid okl
  have HB := Lib.hid hB
  obtain ⟨L, lc, rfl⟩ : ∃ L c, vl = .slice L ll.length c := by
    obtain ⟨L, c, es, hv, _⟩ := hp
    exact ⟨L, c, hv⟩
  obtain ⟨n, hn⟩ : ∃ n, n = ll.length := ⟨_, rfl⟩
  rw [← hn] at HP h1 h30 ⊢
  have HN := Lib.hid hn
  have k0 : ¬ (n : Int) = 0 := by omega
  have k1 : ¬ (n : Int) > 10000 := by omega
  obtain ⟨w0, hw0, hb0, rX, Hz⟩ := zao w #[.slice A sz.length c, .slice B ps.length b] 64
  have HB0 := Lib.hid hb0
  obtain ⟨x0, x1⟩ := row2 rX
  clear h1' h2 ok okl hp hB rX hb0 hn
  refine (callsIn_wide (n := 3)).1 ?_
  refine callsIn_of_wp_marks Tryz.func33 rfl trivial ?_ rfl
  simp only [Tryz.ntmps33, List.size_toArray, List.length_cons, List.length_nil, Nat.reduceAdd, Nat.reduceSub, Array.replicate_succ, Array.replicate_zero, List.push_toArray, List.append_toArray, List.nil_append, List.cons_append]
  refine wpIn_wide.2 ?_
  go_wp2_with fail
  clear hw0
  refine (read_ok (H.out.next HB0.out) OK.out (Bru.next HB.out HB0.out)).mono ?_
  rintro e w1 ⟨⟨A1, c1, B1, b1, S, P, cP, hv, rfl, hS, hRS, hFM⟩, hb1⟩
  simp only [Value.agg.injEq] at hv
  injection hv with hv
  simp only [List.cons.injEq, Value.slice.injEq, and_true, true_and] at hv
  obtain ⟨⟨rfl, rfl⟩, rfl, rfl⟩ := hv
  have HRS := Lib.hid hRS
  have HSn := Lib.hid hS
  have HFM := Lib.hid hFM
  have HB1 := Lib.hid (zaa HB0.out hb1)
  obtain ⟨M, hM⟩ : ∃ M : Int, M = ((prd sz : Nat) : Int) := ⟨_, rfl⟩
  rw [← hM]
  have HM := Lib.hid hM
  clear hM
  obtain ⟨w2, hw2, hb2, rF, rE, Hz2⟩ := zbj w1 #[.slice none 0 0, .slice none 0 0, .slice none 0 0, .int .i64 0, .slice none 0 0] #[.int .i64 0] 137 38
  obtain ⟨w3, hw3⟩ : ∃ x, (pt5 w2 w1.heap.size (.slice A sz.length c) (.slice B ps.length b) (.slice (some ⟨S, 0, none⟩) sz.length sz.length) (.int .i64 M) (.slice P ps.length cP)).setCell ⟨w1.heap.size + 1, 0, none⟩ (.int .i64 0) = x := ⟨_, rfl⟩
  have hb3 : Below w1.heap.size w1 w3 := by rw [← hw3]; exact (zbs hb2 (Nat.le_refl _) _ _ _ _ _).setCell (p := ⟨w1.heap.size + 1, 0, none⟩) (by show w1.heap.size ≤ w1.heap.size + 1; omega) _
  have RF3 : Hid (Row w3 w1.heap.size 137 [.slice A sz.length c, .slice B ps.length b, .slice (some ⟨S, 0, none⟩) sz.length sz.length, .int .i64 M, .slice P ps.length cP]) := by rw [← hw3]; exact (rF.pt5 _ _ _ _ _).far (p := ⟨w1.heap.size + 1, 0, none⟩) (by show w1.heap.size ≠ w1.heap.size + 1; omega) _
  have RE3 : Hid (Row w3 (w1.heap.size + 1) 38 [.int .i64 0]) := by rw [← hw3]; exact (rE.far5 (by omega) _ _ _ _ _).set_ 0 _
  have HB3 := Lib.hid hb3
  obtain ⟨b0, b1', b2, b3, b4⟩ := row5 rF
  obtain ⟨i0, i1, i2, i3, i4⟩ := fre5 rF
  have e0 := rE.cell 0
  have e1 := rE.frozen 0
  have d0 := RE3.out.cell 0
  simp at e0 d0
  obtain ⟨c0, c1', c2, c3, c4⟩ := row5 RF3.out
  obtain ⟨w4, hw4⟩ : ∃ x, w3.alloc (.map #[] 0) = x := ⟨_, rfl⟩
  have hb4 : Below w3.heap.size w3 w4 := by rw [← hw4]; exact (Below.refl _ _).alloc (Nat.le_refl _) _
  have hm4 : IsMp w4 w3.heap.size [] := by unfold IsMp; rw [← hw4]; exact World.alloc_heap_new _ _
  have hz4 : w4.heap.size = w3.heap.size + 1 := by rw [← hw4]; simp
  obtain ⟨w5, hw5, hb5, rM, rS, Hz5⟩ := zbj w4 #[.map none] #[.int .i64 0] 140 3
  have hz4' := Lib.hid hz4
  clear hz4
  obtain ⟨w6, hw6⟩ : ∃ x, (w5.setCell ⟨w4.heap.size, 0, none⟩ (.map (some w3.heap.size))).setCell ⟨w4.heap.size + 1, 0, none⟩ (.int .i64 0) = x := ⟨_, rfl⟩
  have hb6 : Below w4.heap.size w4 w6 := by rw [← hw6]; exact (hb5.setCell (p := ⟨w4.heap.size, 0, none⟩) (Nat.le_refl _) _).setCell (p := ⟨w4.heap.size + 1, 0, none⟩) (by show w4.heap.size ≤ w4.heap.size + 1; omega) _
  have RM6 : Hid (Row w6 w4.heap.size 140 [.map (some w3.heap.size)]) := by rw [← hw6]; exact (rM.set_ 0 _).far (p := ⟨w4.heap.size + 1, 0, none⟩) (by show w4.heap.size ≠ w4.heap.size + 1; omega) _
  have RS6 : Hid (Row w6 (w4.heap.size + 1) 3 [.int .i64 0]) := by rw [← hw6]; exact (rS.far (p := ⟨w4.heap.size, 0, none⟩) (by show w4.heap.size + 1 ≠ w4.heap.size; omega) _).set_ 0 _
  have HB36 := Lib.hid (zaa hb4 hb6)
  have RF6 := Lib.hid (RF3.out.next HB36.out)
  have RE6 := Lib.hid (RE3.out.next HB36.out)
  have HM6 : Hid (IsMp w6 w3.heap.size []) := (hb6.block _ (by have := hz4'.out; omega)).trans hm4
  have HB6 := Lib.hid (zaa HB3.out HB36.out)
  have m0 := rM.cell 0
  have m1 := rM.frozen 0
  have s0 := rS.cell 0
  have s1 := rS.frozen 0
  simp at m0 s0
  obtain ⟨y0, y1, y2, y3, y4⟩ := row5 RF6.out
  clear hb1 hb2 hb3 hb4 hb5 hb6 rF rE rM rS hRS hFM hS x0 x1 hm4
  have hmm := @run_makeMap Tryz.prog
  go_wp2_with fail
  clear hw2 hw3 hw4 hw5 hw6 hmm b0 b1' b2 b3 b4 i0 i1 i2 i3 i4 e0 e1 d0 c0 c1' c2 c3 c4 m0 m1 s0 s1 y0 y1 y2 y3 y4
  refine (each_n _ _ _ _ _ _ _ _ _).mono ?_
  rintro e w7 ⟨rfl, rLy, rLs, hb7⟩
  have HB7 := Lib.hid (zaa HB6.out hb7)
  have RL7 := Lib.hid rLy
  have RLs7 := Lib.hid rLs
  have RF7 := Lib.hid (RF6.out.next hb7)
  have RE7 := Lib.hid (RE6.out.next hb7)
  have RM7 := Lib.hid (RM6.out.next hb7)
  have RS7 := Lib.hid (RS6.out.next hb7)
  have HM7 : Hid (IsMp w7 w3.heap.size []) := (hb7.block _ (by have := RM6.out.lt; have := hz4'.out; omega)).trans HM6.out
  have Hmb : Hid (w3.heap.size < w7.heap.size) := by have := RM7.out.lt; have := hz4'.out; show w3.heap.size < w7.heap.size; omega
  have HP1 := Lib.hid (HP.out.next HB1.out)
  have H11 := Lib.hid (H1.out.next HB1.out)
  have Hs3 : Hid (w1.heap.size + 1 < w3.heap.size) := RE3.out.lt
  have Hs6 : Hid (w4.heap.size + 1 < w6.heap.size) := RS6.out.lt
  have Hs7 : Hid (w6.heap.size + 1 < w7.heap.size) := RLs7.out.lt
  clear rLy rLs hb7 RF6 RE6 RM6 RS6 HM6 RF3 RE3
  go_wp2_with fail
  refine (wpIn_wide (n := 3)).1 ?_
  refine wpIn_rangeFunc_E (σ := Unit) rfl og (gf := 167) (lb := #[.pointer (some ⟨w6.heap.size + 1, 0, none⟩), .pointer (some ⟨w6.heap.size, 0, none⟩), .pointer (some ⟨w6.heap.size + 1 + 1, 0, none⟩)]) rfl trivial (enters_of Tryz.func167 kr rfl)
    (each_seq 2 og (w := w1) (B := w6.heap.size) (ll := ll) (L := L) (b := lc) H11.out (by rw [← HN.out]; exact HP1.out) OKl.out OK.out.l4 (fun x hx => Nat.le_trans (sum_mem hx) OK.out.sum) (by rw [← HN.out]; omega)) HB7.out (fun k s vs hv => by obtain ⟨r, _, rfl⟩ := hv; rfl)
    (fun p W => HiI w1 ll w6.heap.size w1.heap.size w3.heap.size w4.heap.size [.slice A sz.length c, .slice B ps.length b, .slice (some ⟨S, 0, none⟩) sz.length sz.length, .int .i64 M] [.slice A sz.length c, .slice B ps.length b, .slice (some ⟨S, 0, none⟩) sz.length sz.length, .int .i64 M, .slice P ps.length cP] (.slice L n lc) p.1 W) ?hI (fun k s W h => ⟨h.1, h.2.1.cell 0, by rw [← HN.out]; exact h.2.2.1.cell 0⟩) ?hskip ⟨(), HB7.out, RL7.out, RLs7.out, RF7.out, RE7.out, RM7.out, RS7.out, HM7.out⟩
    (fun k _ vs a' W => ∃ r g q0 q1 q2 q3, ll[k]? = some r ∧ q4 r = (q0, q1, q2, q3) ∧ w7.heap.size ≤ g ∧ a' = { tmps := #[.agg #[.slice A sz.length c, .slice B ps.length b], .slice L n lc, .pointer (some ⟨w.heap.size, 0, none⟩), undef, .slice none 0 0, .int .i64 0, .pointer (some ⟨w1.heap.size, 0, none⟩), .pointer (some ⟨w1.heap.size + 1, 0, none⟩), .pointer (some ⟨w4.heap.size, 0, none⟩), .pointer (some ⟨w4.heap.size + 1, 0, none⟩), .int .i64 (k : Nat), .pointer (some ⟨g, 0, none⟩), undef, undef, undef, undef, undef, undef, undef, undef, .tuple #[.agg #[.slice A sz.length c, .slice B ps.length b, .slice (some ⟨S, 0, none⟩) sz.length sz.length, .int .i64 M, .slice P ps.length cP], .int .i64 0], .agg #[.slice A sz.length c, .slice B ps.length b], .tuple #[.agg #[.slice A sz.length c, .slice B ps.length b, .slice (some ⟨S, 0, none⟩) sz.length sz.length, .int .i64 M, .slice P ps.length cP], .int .i64 0], .agg #[.slice A sz.length c, .slice B ps.length b, .slice (some ⟨S, 0, none⟩) sz.length sz.length, .int .i64 M, .slice P ps.length cP], .int .i64 0, .int .i64 0, .bool false, undef, .slice L n lc, .int .i64 (n : Nat), .bool false, .slice L n lc, .int .i64 (n : Nat), .bool (decide (10000 < (n : Int))), .map (some w3.heap.size), .pointer (some ⟨w1.heap.size, 0, none⟩), .agg #[.slice A sz.length c, .slice B ps.length b, .slice (some ⟨S, 0, none⟩) sz.length sz.length, .int .i64 M], .slice L n lc, .func (.func 167) #[] #[.pointer (some ⟨w6.heap.size + 1, 0, none⟩), .pointer (some ⟨w6.heap.size, 0, none⟩), .pointer (some ⟨w6.heap.size + 1 + 1, 0, none⟩)], .int .i64 (k : Nat), .agg #[.int .i64 (q0 : Nat), .int .i64 (q1 : Nat), .int .i64 (q2 : Nat), .int .i64 (q3 : Nat)], undef, undef, undef, undef, undef, undef, undef, undef, undef, undef, undef, undef, undef, undef, undef, undef, undef, undef, undef, undef, undef, undef, undef, undef, undef, undef, undef, undef, undef, undef, undef, undef, undef, undef, undef, undef, undef, undef, undef, undef, undef, undef, undef, undef, undef, undef, undef, undef, undef, undef, undef, undef, undef], defers := [] } ∧ Row W g 145 [.int .i64 (q0 : Nat), .int .i64 (q1 : Nat), .int .i64 (q2 : Nat), .int .i64 (q3 : Nat)] ∧
      HiI w1 ll w6.heap.size w1.heap.size w3.heap.size w4.heap.size [.slice A sz.length c, .slice B ps.length b, .slice (some ⟨S, 0, none⟩) sz.length sz.length, .int .i64 M] [.slice A sz.length c, .slice B ps.length b, .slice (some ⟨S, 0, none⟩) sz.length sz.length, .int .i64 M, .slice P ps.length cP] (.slice L n lc) k W)
    ?hA ?assign ?body ?done
  case hI =>
    rintro p X Y row ⟨i1, i2, i3, i4, i5, i6, i7, i8⟩ hg hr
    have hk := keepC hg fun r e => (hr r e).2
    exact ⟨i1.grown hg i1.size (fun x e => by have := (hr x e).1; have := HB7.out.size; omega), i2.kc hk, i3.kc hk, i4.kc hk, i5.kc hk, i6.kc hk, i7.kc hk, (hg.block _ (zag i8) (fun e => by have := (hr _ e.symm).1; have := Hmb.out; omega)).trans i8⟩
  case hA =>
    rintro k s vs a' _ X Y row ⟨r, g, q0, q1, q2, q3, j1, j0, j2, j3, j4, i1, i2, i3, i4, i5, i6, i7, i8⟩ hg hr
    have hk := keepC hg fun r e => (hr r e).2
    exact ⟨r, g, q0, q1, q2, q3, j1, j0, j2, j3, j4.kc hk, i1.grown hg i1.size (fun x e => by have := (hr x e).1; have := HB7.out.size; omega), i2.kc hk, i3.kc hk, i4.kc hk, i5.kc hk, i6.kc hk, i7.kc hk, (hg.block _ (zag i8) (fun e => by have := (hr _ e.symm).1; have := Hmb.out; omega)).trans i8⟩
  case hskip =>
    rintro k s W h hk hv
    exact absurd ⟨_, List.getElem?_eq_getElem hk, rfl⟩ (hv _)
  case assign =>
    rintro l k s vs W K hl ⟨_, hrec⟩ hi hk ⟨r, hr, rfl⟩ hK
    have HK := Lib.hid hK
    have HR := Lib.hid hr
    have HI := Lib.hid hi
    have hsz : w7.heap.size ≤ W.heap.size := by have := zag hrec; omega
    obtain ⟨W1, hW1, hb1, rB, Hz1⟩ := zao W #[.int .i64 0, .int .i64 0, .int .i64 0, .int .i64 0] 145
    have b0 := rB.cell 0
    have b1 := rB.cell 1
    have b2 := rB.cell 2
    have b3 := rB.cell 3
    have f0 := rB.frozen 0
    have f1 := rB.frozen 1
    have f2 := rB.frozen 2
    have f3 := rB.frozen 3
    simp at b0 b1 b2 b3
    have RB := Lib.hid rB
    have HB1 := Lib.hid hb1
    clear hK hr hi hb1 rB hrec
    obtain ⟨q0, q1, q2, q3, hq⟩ : ∃ q0 q1 q2 q3, q4 r = (q0, q1, q2, q3) := ⟨_, _, _, _, rfl⟩
    have HQ := Lib.hid hq
    rw [key4_kv, hq]
    unfold kv
    clear hq
    gi_wp2
    have hb := (((HB1.out.setCell (p := ⟨W.heap.size, 0, none⟩) (Nat.le_refl _) (.int .i64 (q0 : Nat))).setCell (p := ⟨W.heap.size, 1, none⟩) (Nat.le_refl _) (.int .i64 (q1 : Nat))).setCell (p := ⟨W.heap.size, 2, none⟩) (Nat.le_refl _) (.int .i64 (q2 : Nat))).setCell (p := ⟨W.heap.size, 3, none⟩) (Nat.le_refl _) (.int .i64 (q3 : Nat))
    refine HK.out _ _ ⟨hb.size, fun n o hn ho _ => (hb.block n (zag ho)).trans ho⟩ ⟨r, W.heap.size, q0, q1, q2, q3, HR.out, HQ.out, hsz, rfl, ?_, HI.out.next hb⟩
    exact (((RB.out.set_ 0 _).set_ 1 _).set_ 2 _).set_ 3 _
  case body =>
    rintro l k s vs a' W hl ⟨_, hrec⟩ ⟨r, g, q0, q1, q2, q3, hr, hq, hg, rfl, rG, i1, i2, i3, i4, i5, i6, i7, i8⟩ hk _
    have HR := Lib.hid hr
    have HQ := Lib.hid hq
    have I1 := Lib.hid i1
    have I2 := Lib.hid i2
    have I3 := Lib.hid i3
    have I4 := Lib.hid i4
    have I5 := Lib.hid i5
    have I6 := Lib.hid i6
    have I7 := Lib.hid i7
    have I8 := Lib.hid i8
    have b0 := rG.cell 0
    have b1 := rG.cell 1
    have b2 := rG.cell 2
    have b3 := rG.cell 3
    simp at b0 b1 b2 b3
    have m0 := i6.cell 0
    have s0 := i7.cell 0
    have s1 := i7.frozen 0
    simp at m0 s0
    clear i1 i2 i3 i4 i5 i6 i7 i8 hr hq rG
    obtain ⟨m, hm⟩ : ∃ m, m = zdc ((ll.take k).map q4) := ⟨_, rfl⟩
    obtain ⟨q, hqq⟩ : ∃ q : Q4, q = (q0, q1, q2, q3) := ⟨_, rfl⟩
    rw [← hm] at I8
    have hkv : Value.agg #[.int .i64 (q0 : Nat), .int .i64 (q1 : Nat), .int .i64 (q2 : Nat), .int .i64 (q3 : Nat)] = kv q := by rw [hqq]; rfl
    obtain ⟨cc, hcc⟩ : ∃ c, c = cnt q m := ⟨_, rfl⟩
    have hc30 : cc ≤ 30 := by
      rw [hcc, hm, cnt_tally]
      refine Nat.le_trans List.count_le_length ?_
      rw [List.length_map, List.length_take]
      have := HN.out
      omega
    obtain ⟨wd, hwd⟩ : ∃ x, W.drew = x := ⟨_, rfl⟩
    have Bd : Hid (Below W.heap.size W wd) := by rw [← hwd]; exact zam W
    have I8d : Hid (IsMp wd w3.heap.size m) := (Bd.out.block _ (zag I8.out)).trans I8.out
    obtain ⟨we, hwe⟩ : ∃ x, wd.putObj w3.heap.size (.map (ent 0 (zep q m)).toArray (zep q m).length) = x := ⟨_, rfl⟩
    have hlt : w3.heap.size < wd.heap.size := zag I8d.out
    have I8e : Hid (IsMp we w3.heap.size (zep q m)) := by rw [← hwe]; exact World.putObj_heap_same hlt
    have hlt2 : w3.heap.size < we.heap.size := zag I8e.out
    obtain ⟨wf, hwf⟩ : ∃ x, we.putObj w3.heap.size (.map (ent 0 (bump q m)).toArray (bump q m).length) = x := ⟨_, rfl⟩
    have I8f : Hid (IsMp wf w3.heap.size (bump q m)) := by rw [← hwf]; exact World.putObj_heap_same hlt2
    have r1 := run_lookup4 I8d.out q
    have r2 := run_mapEntry4 I8d.out q
    have r3 := run_lookup4 I8e.out q
    have r4 := run_entryStore4 I8e.out (open0_at q m) (cc + 1)
    rw [cnt_open0] at r3
    rw [← hcc] at r1 r2 r3
    have ebp : (zep q m).set (idx q m) (q, cc + 1) = bump q m := by rw [hcc]; exact bump_eq q m
    rw [hwe] at r2
    rw [ebp, ← open0_length, hwf] at r4
    rw [← hkv] at r1 r2 r3
    have hdc : ∀ (o : Nat) (v : Value) (b : Nat), W.cell? ⟨b, o, none⟩ = some v → wd.cell? ⟨b, o, none⟩ = some v := fun o v b h => zac Bd.out h
    have dm0 := hdc _ _ _ m0
    have db0 := hdc _ _ _ b0
    have db1 := hdc _ _ _ b1
    have db2 := hdc _ _ _ b2
    have db3 := hdc _ _ _ b3
    have hcw : IntKind.i64.wrap ((cc : Int) + 1) = ((cc + 1 : Nat) : Int) := by rw [IntWalk.i64_in _ (by omega)]; simp
    have hci : ((cc + 1 : Nat) : Int) = (cc : Int) + 1 := by simp
    have r5 := r4
    rw [← hcw] at r5
    rw [hci] at r4
    have HM' := Lib.hid hm
    have HQQ := Lib.hid hqq
    have HCC := Lib.hid hcc
    have HC30 := Lib.hid hc30
    have HDC := Lib.hid hdc
    have hmo : Tryz.prog.follows .mixedOrders = true := by kernel_rfl
    have g1 : wd.grownBy we (some w3.heap.size) := by rw [← hwe]; exact grownBy_putObj' _ _ _
    have g2 : we.grownBy wf (some w3.heap.size) := by rw [← hwf]; exact grownBy_putObj' _ _ _
    have hk1 := keepC g1 (fun r e => by cases e; exact ⟨_, I8d.out, rfl⟩)
    have hk2 := keepC g2 (fun r e => by cases e; exact ⟨_, I8e.out, rfl⟩)
    have J2 := Lib.hid (((I2.out.next Bd.out).kc hk1).kc hk2)
    have J3 := Lib.hid (((I3.out.next Bd.out).kc hk1).kc hk2)
    have J4 := Lib.hid (((I4.out.next Bd.out).kc hk1).kc hk2)
    have J5 := Lib.hid (((I5.out.next Bd.out).kc hk1).kc hk2)
    have J6 := Lib.hid (((I6.out.next Bd.out).kc hk1).kc hk2)
    have J7 := Lib.hid (((I7.out.next Bd.out).kc hk1).kc hk2)
    have hw13 : w1.heap.size ≤ w3.heap.size := HB3.out.size
    have J1a := zaa I1.out Bd.out
    have J1b := J1a.grown g1 J1a.size (fun x e => by cases e; exact hw13)
    have J1 := Lib.hid (J1b.grown g2 J1b.size (fun x e => by cases e; exact hw13))
    have G12 : Hid (∀ n : Nat, n ≠ w3.heap.size → n < W.heap.size → wf.heap[n]? = W.heap[n]?) := fun n hn hl => by
      have hld : n < wd.heap.size := Nat.lt_of_lt_of_le hl Bd.out.size
      have h1 := g1.block n hld (fun e => hn (by injection e))
      have hle : n < we.heap.size := Nat.lt_of_lt_of_le hld g1.size
      have h2 := g2.block n hle (fun e => hn (by injection e))
      exact h2.trans (h1.trans (Bd.out.block n hl))
    have Gsz : Hid (W.heap.size ≤ wf.heap.size) := Nat.le_trans Bd.out.size (Nat.le_trans g1.size g2.size)
    have t0 := J7.out.cell 0
    have t1 := J7.out.frozen 0
    simp at t0
    clear hm hqq hcc hkv ebp m0 b0 b1 b2 b3 s0 s1 hlt hlt2 hwe hwf hdc hci hcw g1 g2 hk1 hk2 J1a J1b hw13
    have hkw : wrap64 ((k : Int) + 1) = (k : Int) + 1 := by
      have h1 : k < ll.length := hk
      have h2 := HN.out
      exact wrap64_small k (by omega)
    gi_wp2
    gi_region_with_o (fail)
    all_goals (
      clear r1 r2 r3 r4 r5 dm0 db0 db1 db2 db3 hmo hwd
      gi_wp2
      have hv : Value.int .i64 (wrap64 ((k : Int) + 1)) = Value.int .i64 ((k + 1 : Nat) : Int) := by rw [hkw]; simp
      rw [hv]
      have a1 := Hs3.out
      have a2 := hz4'.out
      have a3 := Hs6.out
      have a4 := Hs7.out
      have a5 := Hmb.out
      refine ⟨⟨by simp [World.setCell]; exact Gsz.out, fun n o hn ho _ => ?_⟩, (), (J1.out.setCell (p := ⟨w4.heap.size + 1, 0, none⟩) (by show w1.heap.size ≤ w4.heap.size + 1; omega) _), J2.out.far (p := ⟨w4.heap.size + 1, 0, none⟩) (by show w6.heap.size ≠ w4.heap.size + 1; omega) _, J3.out.far (p := ⟨w4.heap.size + 1, 0, none⟩) (by show w6.heap.size + 1 ≠ w4.heap.size + 1; omega) _, J4.out.far (p := ⟨w4.heap.size + 1, 0, none⟩) (by show w1.heap.size ≠ w4.heap.size + 1; omega) _, J5.out.far (p := ⟨w4.heap.size + 1, 0, none⟩) (by show w1.heap.size + 1 ≠ w4.heap.size + 1; omega) _, J6.out.far (p := ⟨w4.heap.size + 1, 0, none⟩) (by show w4.heap.size ≠ w4.heap.size + 1; omega) _, J7.out.set_ 0 _, ?_⟩
      · rw [Below.heap_setCell _ _ _ _ (by show n ≠ w4.heap.size + 1; omega), G12.out n (by omega) (zag ho)]
        exact ho
      · have e : zdc ((ll.take (k + 1)).map q4) = bump q m := by
          rw [List.take_add_one, HR.out, Option.toList_some, List.map_append, List.map_cons, List.map_nil, zem, ← HM'.out, HQ.out, ← HQQ.out]
        unfold IsMp
        rw [e, Below.heap_setCell _ _ _ _ (by show w3.heap.size ≠ w4.heap.size + 1; omega)]
        exact I8f.out)
  case done =>
    rintro E _ W hlE ⟨i1, i2, i3, i4, i5, i6, i7, i8⟩ hE
    obtain ⟨Mn, hMn⟩ : ∃ m : Nat, m = prd sz := ⟨_, rfl⟩
    have hM := HM.out
    rw [← hMn] at hM
    have HMn := Lib.hid hMn
    have hMle : Mn ≤ 36 := by rw [hMn]; exact OK.out.prod
    subst hM
    obtain ⟨m, hm⟩ : ∃ m, m = zdc (ll.map q4) := ⟨_, rfl⟩
    have e8 : (ll.take (ll.length, ()).fst) = ll := List.take_length
    rw [e8, ← hm] at i8
    have HMm := Lib.hid hm
    have I1 := Lib.hid i1
    have I4 := Lib.hid i4
    have I6 := Lib.hid i6
    have I7 : Hid (Row W (w4.heap.size + 1) 3 [.int .i64 (n : Nat)]) := by rw [HN.out]; exact i7
    have I8 := Lib.hid i8
    have HE := Lib.hid hE
    have z0 := i5.cell 0
    simp at z0
    obtain ⟨y0, y1, y2, y3, y4⟩ := row5 i4
    have m0 := i6.cell 0
    simp at m0
    clear hMn hm e8 i1 i2 i3 i4 i5 i6 i7 i8 hE
    go_wp2_with (at_make; refine wp_make3 elFr rfl _ _ rfl Mn rfl rfl rfl rfl og ?_; intro w8 hrow hb8 hz8; have hrg := run_range_map (P := Tryz.prog) w8 140 _ _ w3.heap.size _ _ undM ((hb8.block _ (zag I8.out)).trans I8.out); replace m0 := zac hb8 m0; obtain ⟨w9, hw9⟩ : ∃ x, w8.alloc (.mapIter (some w3.heap.size) m.length #[] m.length) = x := ⟨_, rfl⟩; rw [hw9] at hrg)
    have hb9 : Below w8.heap.size w8 w9 := by rw [← hw9]; exact (Below.refl _ _).alloc (Nat.le_refl _) _
    have hit : w9.heap[w8.heap.size]? = some (.mapIter (some w3.heap.size) m.length #[] m.length) := by rw [← hw9]; exact World.alloc_heap_new _ _
    have hb89 := zaa hb8 hb9
    obtain ⟨G, hG⟩ : ∃ G, G = W.heap.size := ⟨_, rfl⟩
    rw [← hG] at hrow ⊢
    have HG := Lib.hid hG
    obtain ⟨it, hI⟩ : ∃ it, it = w8.heap.size := ⟨_, rfl⟩
    rw [← hI] at hit ⊢
    have HIt := Lib.hid hI
    have start : MpI w1 sz n m w1.heap.size w3.heap.size w4.heap.size it G E [.slice A sz.length c, .slice B ps.length b, .slice (some ⟨S, 0, none⟩) sz.length sz.length, .int .i64 (Mn : Int), .slice P ps.length cP] #[] w9 := by
      refine ⟨[], _, hit, (hb89.block _ (zag I8.out)).trans I8.out, hrow.next hb9, ?_, I4.out.next hb89, I7.out.next hb89, zaa I1.out hb89, (hb89.block _ (zag HE.out)).trans HE.out, All2.nil, List.nodup_nil⟩
      refine ⟨by simp [dsOf, HMn.out], fun i x y hx hy => ?_⟩
      have hx' : x = .agg #[.bool false, .slice none 0 0, .slice none 0 0] := List.eq_of_mem_replicate (List.mem_of_getElem? hx)
      have hy' : y = 0 := List.eq_of_mem_replicate (List.mem_of_getElem? (l := List.replicate (prd sz) (0 : Rat)) hy)
      rw [hx', hy']
      exact zcw
    have HStart := Lib.hid start
    have Hit1 : Hid (w1.heap.size ≤ it) := by rw [hI]; exact Nat.le_trans I1.out.size hb8.size
    have HG1 : Hid (w1.heap.size ≤ G) := by rw [hG]; exact I1.out.size
    have HGF : Hid (w1.heap.size < G) := by rw [hG]; exact I4.out.lt
    have HGC : Hid (w4.heap.size + 1 < G) := by rw [hG]; exact I7.out.lt
    clear start hit hb89 hb8 hb9 hrow hG hI hrg hw9 hz8 z0 y0 y1 y2 y3 y4 m0
    go_loopw [58] (fun _ wr => ∃ seen, wr.iterSeen it = seen ∧ Hid (MpI w1 sz n m w1.heap.size w3.heap.size w4.heap.size it G E [.slice A sz.length c, .slice B ps.length b, .slice (some ⟨S, 0, none⟩) sz.length sz.length, .int .i64 (Mn : Int), .slice P ps.length cP] seen wr)) (fun _ wr => (leftOf (ent 0 m).toArray (wr.iterSeen it)).size)
    case atStart => exact ⟨#[], by unfold World.iterSeen; rw [HStart.out.choose_spec.choose_spec.1], HStart.out⟩
    case round =>
      obtain ⟨seen, hseen, hmp⟩ := hrel
      obtain ⟨es, fs, j1, j2, j3, j4, j5, j6, j7, j8, j9, j10⟩ := hmp.out
      rcases run_next_at (P := Tryz.prog) wr 0 it w3.heap.size m.length m.length seen (ent 0 m).toArray m.length j1 j2 ent_hold (Nat.le_refl _) with ⟨hleft, hrun⟩ | ⟨e, hleft, w2', hw2', hrun⟩
      · have Hl := Lib.hid hleft
        have hmem : ∀ e, e ∈ es ↔ e ∈ zdc (ll.map q4) := fun e => by
          rw [← HMm.out]
          constructor
          · intro he
            obtain ⟨i, hi⟩ := List.getElem?_of_mem he
            have hil : i < seen.toList.length := by rw [j9.1]; exact (List.getElem?_eq_some_iff.1 hi).1
            exact List.mem_of_getElem? (j9.2 i _ _ (List.getElem?_eq_getElem hil) hi)
          · intro he
            obtain ⟨j, hj⟩ := List.getElem?_of_mem he
            obtain ⟨i, hi⟩ := List.getElem?_of_mem (left_none hleft (List.getElem?_eq_some_iff.1 hj).1)
            have hil : i < es.length := by rw [← j9.1]; exact (List.getElem?_eq_some_iff.1 hi).1
            have h1 : m[j]? = some es[i] := j9.2 i _ _ hi (List.getElem?_eq_getElem hil)
            rw [hj] at h1
            cases h1
            exact List.getElem_mem hil
        have hkeys : (es.map (·.1)).Nodup := by
          have hk := tally_keys (ll.map q4)
          rw [← HMm.out] at hk
          rw [List.nodup_iff_pairwise_ne, List.pairwise_map, List.pairwise_iff_getElem]
          intro i i' hi hi' hlt heq
          have hil : i < seen.toList.length := by rw [j9.1]; exact hi
          have hil' : i' < seen.toList.length := by rw [j9.1]; exact hi'
          have h1 := j9.2 i _ _ (List.getElem?_eq_getElem hil) (List.getElem?_eq_getElem hi)
          have h2 := j9.2 i' _ _ (List.getElem?_eq_getElem hil') (List.getElem?_eq_getElem hi')
          have hs1 := (List.getElem?_eq_some_iff.1 h1).1
          have hs2 := (List.getElem?_eq_some_iff.1 h2).1
          have hne : seen.toList[i] ≠ seen.toList[i'] := fun e => by
            have := (List.getElem_inj j10).1 e
            omega
          unfold Keys at hk
          rw [List.nodup_iff_pairwise_ne, List.pairwise_map, List.pairwise_iff_getElem] at hk
          have g1 := (List.getElem?_eq_some_iff.1 h1).2
          have g2 := (List.getElem?_eq_some_iff.1 h2).2
          rcases Nat.lt_or_gt_of_ne hne with h | h
          · exact hk _ _ hs1 hs2 h (by rw [g1, g2]; exact heq)
          · exact hk _ _ hs2 hs1 h (by rw [g1, g2]; exact heq.symm)
        have hend := hist_end OKl.out OK.out.l4 hmem hkeys
        rw [← HN.out] at hend
        have hlen : (zaz sz ll).length = Mn := by rw [HMn.out]; simp [zaz]
        rw [hend] at j4
        have hfs := isFs_row j3 j4 (by rw [hlen]; unfold maxLen; omega)
        rw [hlen] at hfs
        have HFs := Lib.hid hfs
        have HLen := Lib.hid hlen
        have HEr := Lib.hid j8
        have HBr := Lib.hid j7
        clear hleft j1 j2 j3 j4 j5 j6 j7 j8 j9 j10 hseen hmem hkeys hend hfs hlen
        go_wp2_with fail
        refine (rats_f HFs.out (by rw [HLen.out]; omega) HQ1.out).mono ?_
        rintro e wx ⟨⟨vx, rfl, hvx⟩, hbx⟩
        have VX := Lib.hid hvx
        have HBx := Lib.hid hbx
        clear hvx hbx
        go_wp2_with fail
        have hK4 := (HBx.out.block _ (zag HEr.out)).trans HEr.out
        refine ⟨by simp, .inl ⟨_, _, rfl, run_takeDeferred hK4, ?_⟩⟩
        refine ⟨_, results_tmp2 rfl _ _ _, ⟨_, rfl, IsV.stb.to VX.out (same_dput hK4)⟩, ?_⟩
        have hlw : w.heap.size ≤ E := by have := HB1.out.size; have := HB7.out.size; omega
        exact (zaa HB1.out (zaa HBr.out HBx.out)).trans (belowK_b (w := w) (Nat.le_refl _) _ E _ _ hlw hK4 rfl rfl)
      · obtain ⟨j, q, cc, hjm, rfl, hjn⟩ := left_some hleft
        have Bd : Below wr.heap.size wr w2' := by
          rcases hw2' with rfl | rfl
          · exact Below.refl _ _
          · exact zam _
        obtain ⟨wn, hwn⟩ : ∃ x, Go.ChangeMaps.setBlock w2' it (.mapIter (some w3.heap.size) m.length (seen.push j) m.length) = x := ⟨_, rfl⟩
        rw [hwn] at hrun
        have i2 : w2'.heap[it]? = some (.mapIter (some w3.heap.size) m.length seen m.length) := (Bd.block _ (zag j1)).trans j1
        have gn : w2'.grownBy wn (some it) := by rw [← hwn]; exact grownBy_putObj' _ _ _
        have hk := keepC gn (fun r e => by cases e; exact ⟨_, i2, rfl⟩)
        have n1 : wn.heap[it]? = some (.mapIter (some w3.heap.size) m.length (seen.push j) m.length) := by rw [← hwn]; exact World.putObj_heap_same (zag i2)
        have hsz2 : w2'.heap.size ≤ wn.heap.size := gn.size
        have hmi : w3.heap.size ≠ it := fun e => by
          have h := j2
          unfold IsMp at h
          rw [e, j1] at h
          cases h
        have hEi : E ≠ it := fun e => by
          have h := j8
          rw [e, j1] at h
          cases h
        have n2 : IsMp wn w3.heap.size m := (gn.block _ (Nat.lt_of_lt_of_le (zag j2) Bd.size) (fun e => hmi (by injection e))).trans ((Bd.block _ (zag j2)).trans j2)
        have n8 : wn.heap[E]? = some (.deferred (some [])) := (gn.block _ (Nat.lt_of_lt_of_le (zag j8) Bd.size) (fun e => hEi (by injection e))).trans ((Bd.block _ (zag j8)).trans j8)
        have hent := run_entry_at (P := Tryz.prog) wn it w3.heap.size m.length seen (ent 0 m).toArray m.length ⟨kv q, .int .i64 (cc : Nat), j⟩ n1 n2 (by have h := ent_at 0 m hjm; rw [Nat.zero_add] at h; exact List.mem_of_getElem? h) (ent_nodup m)
        have N3 : Hid (RowE wn G 150 fs) := ⟨(j3.next Bd).1.kc hk, j3.2⟩
        have N4 : Hid (All2 (IsF wn) fs (dsOf sz n es)) := j4.imp fun _ _ h => (h.next Bd).ku (KF.kc hsz2 hk).1.1
        have N5 := Lib.hid ((j5.next Bd).kc hk)
        have N6 := Lib.hid ((j6.next Bd).kc hk)
        have hit1 := Hit1.out
        have N7 : Hid (Below w1.heap.size w1 wn) := (zaa j7 Bd).grown gn (zaa j7 Bd).size (fun x e => by cases e; exact hit1)
        have N1 := Lib.hid n1
        have N2 := Lib.hid n2
        have N8 := Lib.hid n8
        have J9 := Lib.hid j9
        have J10 := Lib.hid j10
        have HJ := Lib.hid (And.intro hjm hjn)
        have HLs := Lib.hid (left_shrinks _ _ _ hleft)
        have HSn2 := Lib.hid hseen
        obtain ⟨q0, q1, q2, q3⟩ := q
        simp only [kv] at hrun hent
        obtain ⟨wb, hwb, hb9, rB, Hzb⟩ := zao wn #[.int .i64 0, .int .i64 0, .int .i64 0, .int .i64 0] 145
        obtain ⟨wc, hwc⟩ : ∃ x, (((wb.setCell ⟨wn.heap.size, 0, none⟩ (.int .i64 (q0 : Nat))).setCell ⟨wn.heap.size, 1, none⟩ (.int .i64 (q1 : Nat))).setCell ⟨wn.heap.size, 2, none⟩ (.int .i64 (q2 : Nat))).setCell ⟨wn.heap.size, 3, none⟩ (.int .i64 (q3 : Nat)) = x := ⟨_, rfl⟩
        have hbc : Below wn.heap.size wn wc := by rw [← hwc]; exact (((hb9.setCell (p := ⟨wn.heap.size, 0, none⟩) (Nat.le_refl _) _).setCell (p := ⟨wn.heap.size, 1, none⟩) (Nat.le_refl _) _).setCell (p := ⟨wn.heap.size, 2, none⟩) (Nat.le_refl _) _).setCell (p := ⟨wn.heap.size, 3, none⟩) (Nat.le_refl _) _
        have RKc : Hid (Row wc wn.heap.size 145 (cel .i64 (lq (q0, q1, q2, q3)))) := by rw [← hwc]; exact (((rB.set_ 0 _).set_ 1 _).set_ 2 _).set_ 3 _
        have BC := Lib.hid hbc
        have b0 := rB.cell 0
        have b1 := rB.cell 1
        have b2 := rB.cell 2
        have b3 := rB.cell 3
        have f0 := rB.frozen 0
        have f1 := rB.frozen 1
        have f2 := rB.frozen 2
        have f3 := rB.frozen 3
        simp at b0 b1 b2 b3
        have C5 := Lib.hid (N5.out.next hbc)
        have C6 := Lib.hid (N6.out.next hbc)
        obtain ⟨y0, y1, y2, y3, y4⟩ := row5 C5.out
        clear hleft j1 j2 j3 j4 j5 j6 j7 j8 j9 j10 hjm hjn i2 gn hk n1 n2 n8 hmi hEi hit1 hwn hbc hb9 rB hw2' hsz2 Bd hseen
        have hqv : (q0, q1, q2, q3) ∈ ll.map q4 := (tally_mem _ _).1 (by rw [← HMm.out]; exact List.mem_map.2 ⟨_, List.mem_of_getElem? HJ.out.1, rfl⟩)
        obtain ⟨r, hr, hrq⟩ := List.mem_map.1 hqv
        have hlt : ∀ k x, sz[k]? = some x → (lq (q0, q1, q2, q3)).getD k 0 < x := fun k x hx => by
          rw [← hrq, lq_q4 r (by have := (List.getElem?_eq_some_iff.1 hx).1; have := OK.out.l4; omega)]
          exact zdp OKl.out hr k x hx
        have hnum := zed hlt
        rw [← HMn.out] at hnum
        obtain ⟨lqv, hlq⟩ : ∃ l, l = lq (q0, q1, q2, q3) := ⟨_, rfl⟩
        have hl4 : lqv.length = 4 := by rw [hlq]; rfl
        rw [← hlq] at RKc hlt hnum
        obtain ⟨num, hnm⟩ : ∃ x, x = numL sz lqv := ⟨_, rfl⟩
        rw [← hnm] at hnum
        have hcc : cc ≤ 30 := by
          have h := cnt_mem (tally_keys (ll.map q4)) (by rw [← HMm.out]; exact List.mem_of_getElem? HJ.out.1)
          rw [cnt_tally] at h
          have h2 : List.count (q0, q1, q2, q3) (ll.map q4) ≤ (ll.map q4).length := List.count_le_length
          rw [List.length_map] at h2
          have h3 := HN.out
          simp only at h
          omega
        have HLt := Lib.hid hlt
        have HLq := Lib.hid hlq
        have HNm := Lib.hid hnm
        have HRS2 := Lib.hid (HRS.out.next (zaa N7.out BC.out))
        have szl : sz.length ≤ 4 := OK.out.l4
        clear hlt hlq hnm hqv hr hrq
        go_wp2_with fail
        clear b0 b1 b2 b3 f0 f1 f2 f3 y0 y1 y2 y3 y4 hwb hwc hent hrun
        go_loopw [15, 67] (fun p i wi => ∃ (k a : Nat), k ≤ sz.length ∧ i = .int .i64 (k : Nat) ∧ p = .int .i64 (a : Nat) ∧ Hid (a + numL (sz.drop k) (lqv.drop k) = num) ∧ Below wc.heap.size wc wi) (fun _ i _ => sz.length - (intOf i).toNat)
        case atStart => exact ⟨0, 0, Nat.zero_le _, rfl, rfl, by rw [List.drop_zero, List.drop_zero, Nat.zero_add]; exact HNm.out.symm, Below.refl _ _⟩
        case round =>
          obtain ⟨k, a, hk, rfl, rfl, ha, hbi⟩ := hrel
          rcases Nat.lt_or_ge k sz.length with hklt | hkge
          · have hx := List.getElem?_eq_getElem hklt
            obtain ⟨x, hxe⟩ : ∃ x, x = sz[k] := ⟨_, rfl⟩
            rw [← hxe] at hx
            have hstep := numL_drop lqv hx
            have ha2 := ha.out
            rw [hstep] at ha2
            have hkr : k < lqv.length := by omega
            obtain ⟨u, hu, hu0, huc⟩ := (RKc.out.next hbi).num (i := k) hkr
            obtain ⟨v, hv, hv0, hvc⟩ := (HRS2.out.next hbi).num (i := k) (by rw [stp_len]; exact hklt)
            have hv2 : (stp sz).getD k 0 = prd (sz.drop (k + 1)) := by rw [List.getD_eq_getElem?_getD, stp_at hklt]; rfl
            obtain ⟨T, hT⟩ : ∃ T, T = lqv.getD k 0 * prd (sz.drop (k + 1)) := ⟨_, rfl⟩
            rw [← hT] at ha2
            have hTi : u * v = (T : Int) := by rw [hu.out, hv.out, hv2, hT]; simp
            have hT36 : T ≤ 36 := by omega
            have ha36 : a ≤ 36 := by omega
            have hTw : IntKind.i64.wrap (u * v) = (T : Int) := by rw [hTi]; exact IntWalk.i64_in _ (by omega)
            have Ha2 := Lib.hid ha2
            have Hbi := Lib.hid hbi
            clear hx hxe hstep ha hu hv hv2 hT ha2 hbi
            go_wp2_with fail
            go_roundw
            case rel => exact ⟨k + 1, a + T, by omega, by go_num, by go_num, by rw [Nat.add_assoc]; exact Ha2.out, Hbi.out⟩
            case measure => simp [intOf]; omega
          · obtain rfl : k = sz.length := og
            have han : a = num := by have h := ha.out; rw [List.drop_length] at h; simpa [numL] using h
            subst han
            have Hbi := Lib.hid hbi
            have D6 := Lib.hid (C6.out.next hbi)
            have s0 := D6.out.cell 0
            simp at s0
            clear hbi ha
            go_wp2_with fail
            refine (ratio_f wr cc n _ _ rfl rfl (by omega) (by omega) (by omega) (mkRat cc n) rfl).mono ?_
            rintro e w' ⟨⟨v3, rfl, hv3⟩, hb3⟩
            have V3 := Lib.hid hv3
            obtain ⟨sg, P3, m3, c3, S3, n3, d3, hv3e⟩ : ∃ s A m c B n d, v3 = .agg #[.bool s, .slice A m c, .slice B n d] := by
              obtain ⟨A5, m5, c5, B5, n5, d5, h5, _, _⟩ := hv3
              exact ⟨_, _, _, _, _, _, _, h5⟩
            subst hv3e
            have B3 : Hid (Below wn.heap.size wn w') := zaa BC.out (zaa Hbi.out hb3)
            have M3 := Lib.hid (N3.out.next B3.out)
            have hfl : fs.length = Mn := by rw [N4.out.1, dsOf_len, HMn.out]
            have hnf : a < fs.length := by rw [hfl]; exact hnum
            obtain ⟨c0', c1', c2', d0, d1, d2⟩ := M3.out.any hnf
            obtain ⟨f0, f1, f2⟩ := M3.out.free a
            have HNF := Lib.hid hnf
            clear hv3 hb3 hfl hnf
            go_wp2_with fail
            have g0 := HG1.out
            have g1 := HGF.out
            have g2 := HGC.out
            have oit := (B3.out.block _ (zag N1.out)).trans N1.out
            have omb := (B3.out.block _ (zag N2.out)).trans N2.out
            have oE := (B3.out.block _ (zag N8.out)).trans N8.out
            have ng1 : it ≠ G := fun e => by
              have h := oit
              rw [e, M3.out.1] at h
              cases h
            have ng2 : w3.heap.size ≠ G := fun e => by
              have h := omb
              rw [e, M3.out.1] at h
              cases h
            have ng3 : E ≠ G := fun e => by
              have h := oE
              rw [e, M3.out.1] at h
              cases h
            have hp3 : ∀ b : Nat, b ≠ G → (pt3 w' G a (.bool sg) (.slice P3 m3 c3) (.slice S3 n3 d3)).heap[b]? = w'.heap[b]? := fun b hb => by
              rw [pt3, Below.heap_setCell _ _ _ _ hb, Below.heap_setCell _ _ _ _ hb, Below.heap_setCell _ _ _ _ hb]
            have hsn : (pt3 w' G a (.bool sg) (.slice P3 m3 c3) (.slice S3 n3 d3)).iterSeen it = seen.push j := by
              unfold World.iterSeen
              rw [hp3 _ ng1, oit]
            have hku := (M3.out.kt zdy rat_ne.2.2 a (.bool sg) (.slice P3 m3 c3) (.slice S3 n3 d3)).1
            go_roundw
            case rel =>
              refine ⟨seen.push j, hsn, es ++ [((q0, q1, q2, q3), cc)], _, (hp3 _ ng1).trans oit, (hp3 _ ng2).trans omb, M3.out.put HNF.out _ _ _, ?_, ?_, ?_, zez (zaa N7.out B3.out) g0 _ _ _, (hp3 _ ng3).trans oE, ?_, ?_⟩
              · rw [zfa, ← HLq.out, ← HNm.out]
                exact (N4.out.imp fun _ _ h => (h.next B3.out).ku hku).set (V3.out.ku hku) _
              · exact (hp3 _ (by omega)).trans (N5.out.next B3.out)
              · exact (hp3 _ (by omega)).trans (N6.out.next B3.out)
              · rw [Array.toList_push]
                exact J9.out.snoc HJ.out.1
              · rw [Array.toList_push, List.nodup_append]
                exact ⟨J10.out, by simp, fun a ha b hb => by rw [List.mem_singleton] at hb; subst hb; exact fun e => HJ.out.2 (by rw [← e]; exact ha)⟩
            case measure =>
              rw [hsn, HSn2.out]
              exact HLs.out
end Go.Proofs.YtijjjbgnpfjpmaaGreatDoor
namespace Go.Proofs.YtijjjbgnpfjpmaaGreatDoor
open Go.RowKit
set_option linter.unusedVariables false
theorem own_empty1 (w : World) (t : TypeId) {base : Nat} (hb : base ≤ w.heap.size) : Own (w.alloc (.cells #[] t)) base t (.slice (some ⟨w.heap.size, 0, none⟩) 0 0) [] :=
  World.ownsRow_made w #[] 0 hb (Nat.zero_le _) (by simp)
def RetO (u w : World) (q : Rat) (e : Ending) (w' : World) : Prop := (∃ v, e = .returned v ∧ IsQ w' (Old u) v q) ∧ Below w.heap.size w w'
set_option maxRecDepth 100000 in
set_option maxHeartbeats 2000000 in
theorem inst_q {u w : World} {v : Value} {R : Option Addr} {b : Nat} {sz r : List Nat} {ps : List (List Rat)} (h : IsNF u v sz ps) (hu : Below u.heap.size u w) (ok : NFok sz ps) (hv : IsNs w (.slice R sz.length b) r) (hl : r.length = sz.length) (hr : ∀ j x, sz[j]? = some x → r.getD j 0 < x) {p t x : Nat} (hx : sz[p]? = some x) (ht : t < x) {q : Rat} (hq : q = payQ sz ps p (r.set p t)) :
    Calls Tryz.prog 36 #[v, .slice R sz.length b, .int .i64 (p : Int), .int .i64 (t : Int)] w (RetO u w q) := by
  have hp : p < sz.length := (List.getElem?_eq_some_iff.1 hx).1
  have hset : ∀ j x, sz[j]? = some x → (r.set p t).getD j 0 < x := fun j y hj => by
    have hjl := (List.getElem?_eq_some_iff.1 hj).1
    rw [List.getD_eq_getElem?_getD, List.getElem?_set]
    split
    · next e => subst e; rw [hx] at hj; cases hj; rw [if_pos (by omega)]; exact ht
    · next e => have := hr j y hj; rwa [List.getD_eq_getElem?_getD] at this
  have hnum := zed hset
  obtain ⟨N, hN⟩ : ∃ N, N = numL sz (r.set p t) := ⟨_, rfl⟩
  rw [← hN] at hnum
  obtain ⟨A, c, B, d, rfl, h1, h2⟩ := id h
  have hpl : p < ps.length := by rw [ok.len]; exact hp
  obtain ⟨row, hrow⟩ : ∃ row, ps[p]? = some row := ⟨_, List.getElem?_eq_getElem hpl⟩
  have hrl := ok.row row (List.mem_of_getElem? hrow)
  obtain ⟨y, hy⟩ : ∃ y, row[N]? = some y := ⟨_, List.getElem?_eq_getElem (by rw [hrl]; exact hnum)⟩
  have hqy : q = y := by
    rw [hq, payQ, rowP, List.getD_eq_getElem?_getD, List.getD_eq_getElem?_getD, hrow, ← hN, Option.getD_some, hy]; rfl
  obtain ⟨b1, o1, P1, k1, rfl, hS1, hV1, u0⟩ := isM_get h2 (show (rawT ps)[p]? = some (row.map raw) by unfold rawT; rw [List.getElem?_map, hrow]; rfl)
  rw [List.length_map, hrl] at hV1 u0
  obtain ⟨b2, o2, Y1, Y2, Y3, Y4, rfl, hS2, helx, t0, t1, t2⟩ := isV_get hV1 (show (row.map raw)[N]? = some (raw y) by rw [List.getElem?_map, hy]; rfl)
  obtain ⟨x0, hx0⟩ : ∃ s, s = (raw y).neg := ⟨_, rfl⟩
  obtain ⟨x1, hx1⟩ : ∃ s, s = (raw y).num.length := ⟨_, rfl⟩
  obtain ⟨x2, hx2⟩ : ∃ s, s = (raw y).den.length := ⟨_, rfl⟩
  rw [← hx0, ← hx1, ← hx2] at helx
  rw [← hx0] at t0
  rw [← hx1] at t1
  rw [← hx2] at t2
  have QY : Hid (IsQ u (Old u) _ y) := isR_isQ helx
  have HNS := Lib.hid (h1.next hu)
  have HUW := Lib.hid hu
  have HV := Lib.hid hv
  have OK := Lib.hid ok
  have HQ := Lib.hid hqy
  have HT := Lib.hid (And.intro hset (And.intro hx ht))
  have HN := Lib.hid hN
  have HL := Lib.hid hl
  obtain ⟨M, hM⟩ : ∃ M, M = prd sz := ⟨_, rfl⟩
  have hM36 : M ≤ 36 := by rw [hM]; exact ok.prod
  rw [← hM] at u0 hnum
  have HU := Lib.hid (And.intro (zac hu u0) (And.intro (zac hu t0) (And.intro (zac hu t1) (zac hu t2))))
  have hN36 : N < 36 := Nat.lt_of_lt_of_le hnum hM36
  have hl4 : sz.length ≤ 4 := ok.l4
  have hpl4 : ps.length = sz.length := ok.len
  obtain ⟨n, hn⟩ : ∃ n, n = sz.length := ⟨_, rfl⟩
  have Hn := Lib.hid hn
  rw [← hn] at HNS HV hp hl4 hpl4 ⊢
  rw [hpl4]
  obtain ⟨w0, hw0, hb0, rX, rZ, Hz⟩ := zbj w #[.slice A n c, .slice (some ⟨b1, o1, none⟩) n d] #[.bool false, .slice none 0 0, .slice none 0 0] 64 30
  have HB0 := Lib.hid hb0
  have RX := Lib.hid rX
  have RZ := Lib.hid rZ
  have hown := own_empty1 w0 3 (base := w0.heap.size) (Nat.le_refl _)
  have hbase : w0.heap.size ≤ (w0.alloc (.cells #[] 3)).heap.size := by rw [World.size_alloc]; omega
  clear h hu h1 h2 ok hv hl hr hx ht hq hset hN hrow hrl hy hqy hS1 hS2 hV1 u0 t0 t1 t2 helx hx0 hx1 hx2 hb0 rX rZ hpl hM
  obtain ⟨R', b', e', hb1, hb2, hsv0⟩ := (HV.out.next HB0.out).next (zaq w0 (.cells #[] 3))
  simp only [Value.slice.injEq] at e'
  obtain ⟨rfl, hnr, rfl⟩ := e'
  obtain ⟨x0', x1'⟩ := row2 RX.out
  have hlc : (cel .i64 r).length = n := by rw [zal, hnr]
  have hne : ([] ++ cel .i64 r) ≠ [] := by
    intro e
    have := congrArg List.length e
    rw [List.nil_append, hlc] at this
    simp at this
    omega
  have hpi : (p : Int) < (n : Int) := by omega
  have hyp : (cel .i64 r)[p]? = some (.int .i64 ((r.getD p 0 : Nat) : Int)) := by
    unfold cel
    rw [List.getElem?_map, List.getD_eq_getElem?_getD, List.getElem?_eq_getElem (by omega)]
    rfl
  have Hyp := Lib.hid hyp
  have HNR := Lib.hid hnr
  clear hn hpl4 hyp hb1 hb2 hnr
  go_enter Tryz.func36, Tryz.ntmps36
  go_wp2_with (at_builtin; go_loud (refine zex elI1 rfl _ _ rfl rfl hown (news := cel .i64 r) rfl hlc hsv0 (by intro u hu; unfold cel at hu; obtain ⟨k, _, rfl⟩ := List.mem_map.1 hu; rfl) (by simp; omega) hbase ?_); intro v3 w3 hown3 hbw3 hz3; obtain ⟨g, sp, cap, e3, hg, hrow, hcap1, hcap2⟩ := Own.row hown3 hne; rw [List.nil_append, hlc] at e3; subst e3; have c0 : w3.cell? ⟨g, p, none⟩ = some (.int .i64 ((r.getD p 0 : Nat) : Int)) := (hrow.cell p).trans (by rw [List.nil_append, List.getElem?_append_left (by rw [hlc]; exact hp)]; exact Hyp.out); have c1 := hrow.frozen p; clear hown3)
  obtain ⟨wx, hwx⟩ : ∃ x, x = w3.setCell ⟨g, p, none⟩ (.int .i64 (t : Int)) := ⟨_, rfl⟩
  rw [← hwx]
  have Hg : Hid (g ≠ w.heap.size ∧ g ≠ w.heap.size + 1 ∧ w0.heap.size ≤ g) := by have := Hz.out; rw [Hid]; omega
  have BX : Hid (Below w0.heap.size w0 wx) := by
    rw [Hid, hwx]
    exact ((zaq w0 _).trans hbw3).setCell (p := ⟨g, p, none⟩) hg _
  have Hrow : Row wx g 3 ((cel .i64 r ++ sp).set p (.int .i64 (t : Int))) := by rw [hwx]; exact hrow.set_ p _
  have HP2 : Hid (IsNs wx (.slice (some ⟨g, 0, none⟩) n cap) (r.set p t)) := by
    rw [List.nil_append, hlc] at hcap1
    refine ⟨some ⟨g, 0, none⟩, cap, by rw [List.length_set, HNR.out], by rw [List.length_set, ← HNR.out]; exact hcap1, hcap2, fun _ => ⟨g, 0, rfl, Nat.zero_le _, Hrow.lt, fun j u hu => ?_⟩⟩
    have hj : j < n := by
      have := (List.getElem?_eq_some_iff.1 hu).1
      rw [zal, List.length_set, ← HNR.out] at this
      exact this
    have e : cel .i64 (r.set p t) = (cel .i64 r).set p (.int .i64 (t : Int)) := by unfold cel; rw [List.map_set]
    rw [e] at hu
    rw [Nat.zero_add]
    refine (Hrow.cell j).trans ?_
    rw [List.set_append_left _ _ (by rw [hlc]; exact hp), List.getElem?_append_left (by rw [List.length_set, hlc]; exact hj)]
    exact hu
  have NS2 := Lib.hid (HNS.out.next (zaa HB0.out BX.out))
  have RX2 := Lib.hid (RX.out.next BX.out)
  have RZ2 := Lib.hid (RZ.out.next BX.out)
  obtain ⟨a0, a1⟩ := row2 RX2.out
  have HU2 := HU.out
  have u0 := zac (zaa HB0.out BX.out) HU2.1
  have t0 := zac (zaa HB0.out BX.out) HU2.2.1
  have t1 := zac (zaa HB0.out BX.out) HU2.2.2.1
  have t2 := zac (zaa HB0.out BX.out) HU2.2.2.2
  have HS := hs6 a0 a1 u0 t0 t1 t2
  have hNi : (N : Int) < (M : Int) := by omega
  clear HU2 a0 a1 u0 t0 t1 t2 Hrow hwx hrow hcap1 hcap2 c0 c1 hbw3 hz3 hg x0' x1'
  refine wp_region_noPanic ?_
  refine zck [11] (SH.mk _ HS).s (fun _ => True) kr (HS.out _ bel) trivial (fun hHeld hC2 => ?_)
  refine pB 0 17 ?_
  refine pB 1 18 ?_
  refine pB 2 19 ?_
  refine pB 3 20 ?_
  refine pB 4 21 ?_
  refine pB 5 22 ?_
  refine pB 6 23 ?_
  refine pB 7 24 ?_
  refine oneA (i := 8) kr rfl rfl fun K hK => ?_
  go_simp
  go_at_call 105
  have hat := at_f (w := wx.drew) (A := A) (R := some ⟨g, 0, none⟩) (a := c) (b := cap) (sz := sz) (r := r.set p t) (by rw [← Hn.out]; exact NS2.out.next (zam wx)) (by rw [← Hn.out]; exact HP2.out.next (zam wx)) (by rw [List.length_set, HL.out]) OK.out.pos (fun x hx => Nat.le_trans (sum_mem hx) OK.out.sum) (by rw [← HN.out]; omega) (fun x hx => by
    obtain ⟨j, hj⟩ := List.getElem?_of_mem hx
    have hjl := (List.getElem?_eq_some_iff.1 hj).1
    rw [List.length_set, HL.out] at hjl
    have h1 := HT.out.1 j _ (List.getElem?_eq_getElem hjl)
    rw [List.getD_eq_getElem?_getD, hj] at h1
    have h2 := Nat.le_trans (sum_mem (List.getElem_mem hjl)) OK.out.sum
    exact Nat.le_trans (Nat.le_of_lt h1) h2) (by rw [← Hn.out]; exact hl4) (z := (N : Int)) (by rw [HN.out])
  rw [← Hn.out] at hat
  (with_reducible refine Calls.mono hat ?_)
  clear hat
  rintro e w5 ⟨rfl, hb5⟩
  have B5 : Hid (Below wx.heap.size wx w5) := (zam wx).trans hb5
  clear hb5
  (focus go_wp2_with fail)
  refine hK.out _ _ (HS.out _ B5.out) trivial fun hHeld hC2 => ?_
  clear hK K
  refine sP ?_
  refine pB 9 26 ?_
  refine pB 10 27 ?_
  have RZ5 := Lib.hid (RZ2.out.next B5.out)
  obtain ⟨z0, z1, z2⟩ := zab RZ5.out
  obtain ⟨f0, f1, f2⟩ := zan RZ5.out
  refine oneT (i := 11) kr rfl rfl rfl rfl fun K hK => ?_
  go_simp
  have hb1 : b1 < w.heap.size := World.block_lt_of_cell? w _ HU.out.1
  have hb2 : b2 < w.heap.size := World.block_lt_of_cell? w _ HU.out.2.1
  obtain ⟨s0, s1, s2, s3, s4, s5⟩ := HS.out _ B5.out
  refine hK.out _ _ ⟨zaj s0 (by omega), zaj s1 (by omega), zaj s2 (by omega), zaj s3 (by omega), zaj s4 (by omega), zaj s5 (by omega)⟩ fun hHeld => ?_
  clear hK K s0 s1 s2 s3 s4 s5
  refine sP ?_
  refine zfs kr ?_ _
  refine NoPanic.normal ?_
  go_wp2_with fail
  have BW : Below w.heap.size w w5 := zaa HB0.out (zaa BX.out B5.out)
  have Q5 : IsQ (put3 w5 (w.heap.size + 1) (.bool x0) (.slice Y1 x1 Y2) (.slice Y3 x2 Y4)) (Old u) (.agg #[.bool x0, .slice Y1 x1 Y2, .slice Y3 x2 Y4]) y := by
    have h1 : IsQ w5 (Old u) (.agg #[.bool x0, .slice Y1 x1 Y2, .slice Y3 x2 Y4]) y := IsQ.stb.to QY.out fun b hb => ⟨hb, fun o => (zaa HUW.out BW).cell (p := ⟨b, o, none⟩) hb⟩
    exact IsQ.stb.to h1 (zbi fun b hb => ⟨by have h : b < u.heap.size := hb; have := HUW.out.size; omega, hb⟩)
  rw [HQ.out]
  refine zct Tryz.results36 rfl rfl (Row.put3 RZ5.out _ _ _) ⟨⟨_, rfl, Q5⟩, zad BW (by omega) _ _ _⟩
abbrev pn2 (w : World) (g : Nat) (a b : Value) : World := (w.setCell ⟨g, 0, none⟩ a).setCell ⟨g, 1, none⟩ b
theorem Row.pn2 {w : World} {g : Nat} {t : TypeId} {x0 x1 : Value} (h : Row w g t [x0, x1]) (a b : Value) : Row (Go.Proofs.YtijjjbgnpfjpmaaGreatDoor.pn2 w g a b) g t [a, b] := (h.set_ 0 a).set_ 1 b
theorem below_pn2 {w w1 : World} {n g : Nat} (h : Below n w w1) (hg : n ≤ g) (a b : Value) : Below n w (pn2 w1 g a b) := (h.setCell (p := ⟨g, 0, none⟩) hg a).setCell (p := ⟨g, 1, none⟩) hg b
theorem same_pn2 {w : World} {g : Nat} {S T : Nat → Prop} {a b : Value} (h : ∀ x, S x → x ≠ g ∧ T x) : Same S T w (pn2 w g a b) := fun x hx => ⟨(h x hx).2, fun o => (World.cell?_setCell_other _ _ _ _ (fun e => (h x hx).1 (by cases e; rfl))).trans (World.cell?_setCell_other _ _ _ _ (fun e => (h x hx).1 (by cases e; rfl)))⟩
theorem size_pn2 (w : World) (g : Nat) (a b : Value) : (pn2 w g a b).heap.size = w.heap.size := by simp [pn2, World.setCell]
theorem ret_norm {fn : Func} {slot : Tmp} {R : Ending → World → Prop} {a : Act} {w : World} {g : Nat} {x y : Value} (hr : fn.results = #[.cell slot 64]) (ha : a.tmps.getD slot undef = .pointer (some ⟨g, 0, none⟩)) (hd : a.defers = [])
    (h : Row w g 64 [x, y]) (hR : R (.returned (.agg #[x, y])) w) : bodyPost Tryz.prog fn R .ret a w := by
  refine bodyPost_ret (v := .agg #[x, y]) ?_ hd hR
  obtain ⟨h0, h1⟩ := row2 h
  have ha' : a.tmps[slot]?.getD undef = .pointer (some ⟨g, 0, none⟩) := by simpa using ha
  simp [results, hr, ha', asAddr, go_sem, h0, h1]
theorem isIL_row {w : World} {g : Nat} {t : TypeId} {l : List Int} (h : Row w g t (l.map fun x => .int .i64 x)) (hl : l.length ≤ maxLen) (hi : ∀ x ∈ l, x.natAbs ≤ 1000000) : IsIL w (Old w) (.slice (some ⟨g, 0, none⟩) l.length l.length) l :=
  ⟨_, _, rfl, Nat.le_refl _, hl, fun _ => ⟨g, 0, rfl, h.lt, fun j u hu => by have := h.cell j; rw [Nat.zero_add]; exact this.trans hu⟩, fun x hx => by have := hi x hx; unfold In64; omega⟩
def RetN (w : World) (sz : List Nat) (ps : List (List Rat)) (e : Ending) (w' : World) : Prop := (∃ v, e = .returned v ∧ IsNF w' v sz ps) ∧ Below w.heap.size w w'
set_option maxRecDepth 100000 in
set_option maxHeartbeats 1000000 in
theorem second_l (w : World) : Calls Tryz.prog 92 #[] w (RetN w [2, 2] (zbh secZ)) := by
  obtain ⟨w0, hw0, hb0, rZ, Hz⟩ := zao w #[.slice none 0 0, .slice none 0 0] 64
  have RZ := Lib.hid rZ
  have HB := Lib.hid hb0
  obtain ⟨wb, hwb, hbb, ra, rb, Hzb⟩ := zbj w0 #[.int .i64 2, .int .i64 2] #[.int .i64 1, .int .i64 (-1), .int .i64 (-1), .int .i64 1] 3 3
  have RA := Lib.hid ra
  have Ib := Lib.hid (isIL_row (l := [1, -1, -1, 1]) rb (by decide) (by decide))
  have HB := Lib.hid (zaa HB.out hbb)
  have RZ := Lib.hid (RZ.out.next hbb)
  clear rZ hb0 hbb ra rb
  go_enter Tryz.func92, Tryz.ntmps92
  go_wp2_with fail
  clear hw0 hwb
  refine (whole_l25 Ib.out rfl (by decide) (by decide)).mono ?_
  rintro e w1 ⟨⟨v1, rfl, hv1⟩, hb1⟩
  have V1 := Lib.hid (IsV.stb.le hv1 (m := w.heap.size + 1) (by have h1 := Hz.out; have h2 := Hzb.out; omega))
  obtain ⟨P1, k1, e1, _⟩ := zcb hv1
  replace e1 : v1 = .slice P1 4 k1 := e1
  subst e1
  obtain ⟨wc, hwc, hbc, rc, Hzc⟩ := zao w1 #[.int .i64 (-1), .int .i64 1, .int .i64 1, .int .i64 (-1)] 3
  have Ic := Lib.hid (isIL_row (l := [-1, 1, 1, -1]) rc (by decide) (by decide))
  have HB := Lib.hid (zaa HB.out (zaa hb1 hbc))
  have RZ := Lib.hid (RZ.out.next (zaa hb1 hbc))
  have RA := Lib.hid (RA.out.next (zaa hb1 hbc))
  have V1 := Lib.hid (IsV.stb.fresh V1.out hbc)
  clear hv1 hb1 hbc rc Ib
  go_wp2_with fail
  clear hwc
  refine (whole_l25 Ic.out rfl (by decide) (by decide)).mono ?_
  have Hz2 : Hid (w.heap.size + 1 ≤ wc.heap.size) := RZ.out.lt
  rintro e w2 ⟨⟨v2, rfl, hv2⟩, hb2⟩
  have V2 := Lib.hid (IsV.stb.le hv2 (m := w.heap.size + 1) (by have h1 := RZ.out.lt; omega))
  obtain ⟨P2, k2, e2, _⟩ := zcb hv2
  replace e2 : v2 = .slice P2 4 k2 := e2
  subst e2
  obtain ⟨wd, hwd, hbd, rd, Hzd⟩ := zao w2 #[.slice P1 4 k1, .slice P2 4 k2] 25
  have HB := Lib.hid (zaa HB.out (zaa hb2 hbd))
  have RZ := Lib.hid (RZ.out.next (zaa hb2 hbd))
  have RA := Lib.hid (RA.out.next (zaa hb2 hbd))
  have V1 := Lib.hid (IsV.stb.fresh V1.out (zaa hb2 hbd))
  have V2 := Lib.hid (IsV.stb.fresh V2.out hbd)
  have hl2 : w.heap.size + 1 ≤ w2.heap.size := by have h1 := Hz2.out; have h2 := hb2.size; omega
  have VM : Hid (IsM wd (New (w.heap.size + 1) wd) (.slice (some ⟨w2.heap.size, 0, none⟩) 2 2) (rawT (zbh secZ))) := isS_row (es := [.slice P1 4 k1, .slice P2 4 k2]) (l := [rawV (zbx 1 [1, -1, -1, 1]), rawV (zbx 1 [-1, 1, 1, -1])]) rd ⟨hl2, rd.lt⟩ (by intro u hu; simp at hu; rcases hu with rfl | rfl <;> rfl) (all2_two V1.out V2.out) (by simp)
  have Hne : Hid (w0.heap.size ≠ w.heap.size) := by rw [Hid, Hz.out]; omega
  obtain ⟨z0, z1⟩ := row2 RZ.out
  obtain ⟨f0, f1⟩ := (⟨RZ.out.frozen 0, RZ.out.frozen 1⟩ : wd.frozen? ⟨w.heap.size, 0, none⟩ = false ∧ wd.frozen? ⟨w.heap.size, 1, none⟩ = false)
  clear hv2 hb2 hbd rd Ic
  go_wp2_with fail
  have RA2 := Row.far (p := ⟨w.heap.size, 1, none⟩) (Row.far (p := ⟨w.heap.size, 0, none⟩) RA.out Hne.out (.slice (some ⟨w0.heap.size, 0, none⟩) 2 2)) Hne.out (.slice (some ⟨w2.heap.size, 0, none⟩) 2 2)
  refine ret_norm Tryz.results92 rfl rfl (RZ.out.pn2 _ _) ⟨⟨_, rfl, _, _, _, _, rfl, zfd RA2 rfl (by unfold maxLen; decide), IsM.stb.to VM.out (same_pn2 fun b h => ⟨by have := h.1; omega, by show b < _; rw [size_pn2]; exact h.2⟩)⟩, below_pn2 HB.out (Nat.le_refl _) _ _⟩
set_option maxRecDepth 100000 in
set_option maxHeartbeats 1000000 in
theorem cslack_ok {w : World} {v vd : Value} {sz : List Nat} {ps : List (List Rat)} {d : List Rat} (h : IsNF w v sz ps) (ok : NFok sz ps) (hd : IsV w (Old w) vd (d.map raw)) (okd : PrOk d) (g : GainOk sz ps d) (hg : ∀ p x t, sz[p]? = some x → t < x → Fz (zcv sz ps d p t)) (hq : L1Q (slackQ sz ps d)) (hB : Bru w) : Calls Tryz.prog 34 #[v, vd] w (RetR0 w (slackQ sz ps d)) := by
  have H := Lib.hid h
  obtain ⟨A, c, B, b, rfl, h1, h2⟩ := h
  have HD := Lib.hid hd
  have OK := Lib.hid ok
  have OKd := Lib.hid okd
  have GO := Lib.hid g
  have HG := Lib.hid hg
  have HQ := Lib.hid hq
  have HB := Lib.hid hB
  obtain ⟨D, e0, hvd, _⟩ := zcb hd
  rw [List.length_map] at hvd
  subst hvd
  obtain ⟨w0, hw0, hb0, rX, rZ, Hz⟩ := zbj w #[.slice A sz.length c, .slice B ps.length b] #[.bool false, .slice none 0 0, .slice none 0 0] 64 30
  have HB0 := Lib.hid hb0
  have RZ := Lib.hid rZ
  obtain ⟨x0, x1⟩ := row2 rX
  clear h1 h2 ok okd g hg hq hB hd rX rZ hb0
  go_enter Tryz.func34, Tryz.ntmps34
  go_wp2_with fail
  clear hw0
  refine (dist_ok (H.out.next HB0.out) OK.out (IsV.stb.next HD.out HB0.out) OKd.out GO.out.len (Bru.next HB.out HB0.out)).mono ?_
  rintro e w1 ⟨⟨v1, vd1, rfl, hf, hfs⟩, hb1⟩
  have HF := Lib.hid hf
  have HFs := Lib.hid hfs
  obtain ⟨A1, a1, B1, b1, S1, s1, P1, p1, rfl, _⟩ := hf
  obtain ⟨D1, d1, rfl, _⟩ := hfs.hd
  obtain ⟨M, hM⟩ : ∃ M : Int, M = ((prd sz : Nat) : Int) := ⟨_, rfl⟩
  rw [← hM] at HF ⊢
  clear hM
  obtain ⟨w2, hw2, hb2, rB, Hz2⟩ := zao w1 #[.slice none 0 0, .slice none 0 0, .slice none 0 0, .int .i64 0, .slice none 0 0] 137
  obtain ⟨w3, hw3⟩ : ∃ x, (pt5 w2 w1.heap.size (.slice A1 sz.length a1) (.slice B1 ps.length b1) (.slice S1 sz.length s1) (.int .i64 M) (.slice P1 ps.length p1)) = x := ⟨_, rfl⟩
  have hb3 : Below w1.heap.size w1 w3 := by rw [← hw3]; exact zbs hb2 (Nat.le_refl _) _ _ _ _ _
  have R3 : Hid (Row w3 w1.heap.size 137 [.slice A1 sz.length a1, .slice B1 ps.length b1, .slice S1 sz.length s1, .int .i64 M, .slice P1 ps.length p1]) := by rw [← hw3]; exact rB.pt5 _ _ _ _ _
  have HB3 := Lib.hid (zaa HB0.out (zaa hb1 hb3))
  have RZ3 := Lib.hid (RZ.out.next (zaa hb1 hb3))
  have HF3 := Lib.hid (HF.out.next hb3)
  have HFs3 := Lib.hid (HFs.out.next hb3)
  obtain ⟨b0, b1', b2, b3, b4⟩ := row5 rB
  obtain ⟨i0, i1, i2, i3, i4⟩ := fre5 rB
  obtain ⟨c0, c1, c2, c3, c4⟩ := row5 R3.out
  clear hb1 hb2 hb3 rB hfs x0 x1
  go_wp2_with fail
  clear hw2 hw3
  refine (slack_f HF3.out HFs3.out OK.out GO.out HG.out).mono ?_
  rintro e w4 ⟨⟨v4, rfl, hv4⟩, hb4⟩
  have V4 := Lib.hid hv4
  have HB4 := Lib.hid (zaa HB3.out hb4)
  have RZ4 := Lib.hid (RZ3.out.next hb4)
  clear b0 b1' b2 b3 b4 i0 i1 i2 i3 i4 c0 c1 c2 c3 c4 hv4 hb4
  go_wp2_with fail
  refine (one_f V4.out HQ.out).mono ?_
  rintro e w5 ⟨⟨v5, rfl, hv5⟩, hb5⟩
  have V5 := Lib.hid hv5
  obtain ⟨neg, A4, c4, B4, d4, rfl, _, _, _⟩ := zar (IsQ.stb.to hv5 (zav tu_lt))
  have HB5 := Lib.hid (zaa HB4.out hb5)
  have RZ5 := Lib.hid (RZ4.out.next hb5)
  obtain ⟨z0, z1, z2⟩ := zab RZ5.out
  obtain ⟨j0, j1, j2⟩ := zan RZ5.out
  clear hv5 hb5
  go_wp2_with fail
  exact ret_raty Tryz.results34 rfl rfl rfl (RZ5.out.put3 _ _ _) ⟨⟨_, rfl, IsQ.stb.to V5.out (kt_put3 rat_ne.1 rat_ne.2.1 RZ5.out _ _ _).same⟩, zad HB5.out (by omega) _ _ _⟩
set_option maxRecDepth 100000 in
set_option maxHeartbeats 1000000 in
theorem cgain_ok {w : World} {v vd : Value} {sz : List Nat} {ps : List (List Rat)} {d : List Rat} (h : IsNF w v sz ps) (ok : NFok sz ps) (hd : IsV w (Old w) vd (d.map raw)) (okd : PrOk d) (g : GainOk sz ps d) {p t x : Nat} (hx : sz[p]? = some x) (ht : t < x) (hq : L1Q (zcv sz ps d p t)) (hB : Bru w) : Calls Tryz.prog 40 #[v, vd, .int .i64 (p : Int), .int .i64 (t : Int)] w (RetR0 w (zcv sz ps d p t)) := by
  have H := Lib.hid h
  obtain ⟨A, c, B, b, rfl, h1, h2⟩ := h
  have HD := Lib.hid hd
  have OK := Lib.hid ok
  have OKd := Lib.hid okd
  have GO := Lib.hid g
  have HX := Lib.hid (And.intro hx ht)
  have HQ := Lib.hid hq
  have HB := Lib.hid hB
  have hp : p < sz.length := (List.getElem?_eq_some_iff.1 hx).1
  have k0 : ¬ (p : Int) < 0 := by omega
  have k1 : ¬ (p : Int) ≥ (sz.length : Int) := by omega
  have k2 : ¬ (t : Int) < 0 := by omega
  have k3 : ¬ (t : Int) ≥ (x : Int) := by omega
  obtain ⟨D, e0, hvd, _⟩ := zcb hd
  rw [List.length_map] at hvd
  subst hvd
  obtain ⟨w0, hw0, hb0, rX, rZ, Hz⟩ := zbj w #[.slice A sz.length c, .slice B ps.length b] #[.bool false, .slice none 0 0, .slice none 0 0] 64 30
  have HB0 := Lib.hid hb0
  have RZ := Lib.hid rZ
  obtain ⟨x0, x1⟩ := row2 rX
  clear h1 h2 ok okd g hq hB hd rX rZ hb0 hx ht
  go_enter Tryz.func40, Tryz.ntmps40
  go_wp2_with fail
  clear hw0
  refine (dist_ok (H.out.next HB0.out) OK.out (IsV.stb.next HD.out HB0.out) OKd.out GO.out.len (Bru.next HB.out HB0.out)).mono ?_
  rintro e w1 ⟨⟨v1, vd1, rfl, hf, hfs⟩, hb1⟩
  have HF := Lib.hid hf
  have HFs := Lib.hid hfs
  obtain ⟨A1, a1, B1, b1, S1, s1, P1, p1, rfl, hn1, _⟩ := hf
  obtain ⟨D1, d1, rfl, _⟩ := hfs.hd
  obtain ⟨bb, oo, rfl, hbl, hcell0⟩ := hn1.at HX.out.1
  obtain ⟨M, hM⟩ : ∃ M : Int, M = ((prd sz : Nat) : Int) := ⟨_, rfl⟩
  rw [← hM] at HF ⊢
  clear hM
  obtain ⟨w2, hw2, hb2, rB, Hz2⟩ := zao w1 #[.slice none 0 0, .slice none 0 0, .slice none 0 0, .int .i64 0, .slice none 0 0] 137
  obtain ⟨w3, hw3⟩ : ∃ x, (pt5 w2 w1.heap.size (.slice (some ⟨bb, oo, none⟩) sz.length a1) (.slice B1 ps.length b1) (.slice S1 sz.length s1) (.int .i64 M) (.slice P1 ps.length p1)) = x := ⟨_, rfl⟩
  have hb3 : Below w1.heap.size w1 w3 := by rw [← hw3]; exact zbs hb2 (Nat.le_refl _) _ _ _ _ _
  have R3 : Hid (Row w3 w1.heap.size 137 [.slice (some ⟨bb, oo, none⟩) sz.length a1, .slice B1 ps.length b1, .slice S1 sz.length s1, .int .i64 M, .slice P1 ps.length p1]) := by rw [← hw3]; exact rB.pt5 _ _ _ _ _
  have HB3 := Lib.hid (zaa HB0.out (zaa hb1 hb3))
  have RZ3 := Lib.hid (RZ.out.next (zaa hb1 hb3))
  have HF3 := Lib.hid (HF.out.next hb3)
  have HFs3 := Lib.hid (HFs.out.next hb3)
  have hcell := zac hb3 hcell0
  obtain ⟨b0, b1', b2, b3, b4⟩ := row5 rB
  obtain ⟨i0, i1, i2, i3, i4⟩ := fre5 rB
  obtain ⟨c0, c1, c2, c3, c4⟩ := row5 R3.out
  clear hb1 hb2 hb3 rB hfs x0 x1 hn1 hcell0
  go_wp2_with fail
  clear hw2 hw3
  refine (gain_f HF3.out HFs3.out OK.out GO.out HX.out.1 HX.out.2).mono ?_
  rintro e w4 ⟨⟨v4, rfl, hv4⟩, hb4⟩
  have V4 := Lib.hid hv4
  have HB4 := Lib.hid (zaa HB3.out hb4)
  have RZ4 := Lib.hid (RZ3.out.next hb4)
  clear b0 b1' b2 b3 b4 i0 i1 i2 i3 i4 c0 c1 c2 c3 c4 hv4 hb4
  go_wp2_with fail
  refine (one_f V4.out HQ.out).mono ?_
  rintro e w5 ⟨⟨v5, rfl, hv5⟩, hb5⟩
  have V5 := Lib.hid hv5
  obtain ⟨neg, A4, c4, B4, d4, rfl, _, _, _⟩ := zar (IsQ.stb.to hv5 (zav tu_lt))
  have HB5 := Lib.hid (zaa HB4.out hb5)
  have RZ5 := Lib.hid (RZ4.out.next hb5)
  obtain ⟨z0, z1, z2⟩ := zab RZ5.out
  obtain ⟨j0, j1, j2⟩ := zan RZ5.out
  clear hv5 hb5
  go_wp2_with fail
  exact ret_raty Tryz.results40 rfl rfl rfl (RZ5.out.put3 _ _ _) ⟨⟨_, rfl, IsQ.stb.to V5.out (kt_put3 rat_ne.1 rat_ne.2.1 RZ5.out _ _ _).same⟩, zad HB5.out (by omega) _ _ _⟩
set_option maxRecDepth 100000 in
set_option maxHeartbeats 1000000 in
theorem same15_r {w : World} {va vb : Value} {a b : Raw} (ha : IsR w (Old w) va a) (hb : IsR w (Old w) vb b) :
    Calls Tryz.prog 41 #[va, vb] w fun e w' => e = .returned (.bool (decide (a = b))) ∧ Below w.heap.size w w' := by
  rw [← sameR_eq]
  obtain ⟨A1, c1, A2, c2, rfl, hA1, hA2⟩ := ha
  obtain ⟨B1, d1, B2, d2, rfl, hB1, hB2⟩ := hb
  have HA1 := Lib.hid hA1
  have HA2 := Lib.hid hA2
  have HB1 := Lib.hid hB1
  have HB2 := Lib.hid hB2
  unfold sameR
  obtain ⟨b1, hb1⟩ : ∃ x, x = decide (a.neg = b.neg) := ⟨_, rfl⟩
  obtain ⟨b2, hb2⟩ : ∃ x, x = decide (a.num = b.num) := ⟨_, rfl⟩
  obtain ⟨b3, hb3⟩ : ∃ x, x = decide (a.den = b.den) := ⟨_, rfl⟩
  have p1 : (a.neg == b.neg) = b1 := by rw [hb1]; cases a.neg <;> cases b.neg <;> rfl
  rw [← hb1, ← hb2, ← hb3]
  have Hb2 := Lib.hid hb2
  have Hb3 := Lib.hid hb3
  clear hb1 hb2 hb3 hA1 hA2 hB1 hB2
  obtain ⟨w0, hw0, hb0, rA, rB, Hz⟩ := zbj w #[.bool a.neg, .slice A1 a.num.length c1, .slice A2 a.den.length c2] #[.bool b.neg, .slice B1 b.num.length d1, .slice B2 b.den.length d2] 30 30
  have HB0 := Lib.hid hb0
  obtain ⟨x0, x1, x2⟩ := zab rA
  obtain ⟨y0, y1, y2⟩ := zab rB
  clear hb0 rA rB
  cases b1 with
  | false =>
    go_enter Tryz.func41, Tryz.ntmps41
    go_wp2_with fail
    go_ret
    exact ⟨rfl, HB0.out⟩
  | true =>
    cases b2 with
    | false =>
      go_enter Tryz.func41, Tryz.ntmps41
      go_wp2_with fail
      clear hw0
      refine (alike_l (isK_l (IsK.stb.to HA1.out (zby HB0.out))) (isK_l (IsK.stb.to HB1.out (zby HB0.out)))).mono ?_
      rw [← Hb2.out]
      rintro e w1 ⟨rfl, hd⟩
      have hb := hd.below w0.heap.size
      have HB1' := Lib.hid (zaa HB0.out hb)
      go_wp2_with fail
      go_ret
      exact ⟨rfl, HB1'.out⟩
    | true =>
      cases b3
      all_goals
        go_enter Tryz.func41, Tryz.ntmps41
        go_wp2_with fail
        clear hw0
        refine (alike_l (isK_l (IsK.stb.to HA1.out (zby HB0.out))) (isK_l (IsK.stb.to HB1.out (zby HB0.out)))).mono ?_
        rw [← Hb2.out]
        rintro e w1 ⟨rfl, hd⟩
        have hb := hd.below w0.heap.size
        have HB1' := Lib.hid (zaa HB0.out hb)
        replace x2 := zac hb x2
        replace y2 := zac hb y2
        clear hb hd
        go_wp2_with fail
        refine (alike_l (isK_l (IsK.stb.to HA2.out (zby HB1'.out))) (isK_l (IsK.stb.to HB2.out (zby HB1'.out)))).mono ?_
        rw [← Hb3.out]
        rintro e w2 ⟨rfl, hd⟩
        have hb := hd.below w1.heap.size
        have HB2' := Lib.hid (zaa HB1'.out hb)
        clear hb hd
        go_wp2_with fail
        go_ret
        exact ⟨rfl, HB2'.out⟩
theorem isQ_isR {w : World} {S : Nat → Prop} {v : Value} {q : Rat} (h : IsQ w S v q) : IsR w S v (raw q) := h
theorem zca {w : World} {S : Nat → Prop} {v : Value} {q : Rat} (h : IsQ w S v q) : ∃ (s : Bool) (P : Option Addr) (n k : Nat) (Q : Option Addr) (n' k' : Nat), v = .agg #[.bool s, .slice P n k, .slice Q n' k'] := by
  obtain ⟨s, P, k, Q, l, e, _⟩ := zar h
  exact ⟨_, _, _, _, _, _, _, e⟩
theorem same_q {w : World} {va vb : Value} {a : Rat} (ha : IsQ w (Old w) va a) (hb : IsQ w (Old w) vb a) :
    Calls Tryz.prog 41 #[va, vb] w fun e w' => e = .returned (.bool true) ∧ Below w.heap.size w w' := by
  have h := same15_r (isQ_isR ha) (isQ_isR hb)
  rw [decide_eq_true rfl] at h
  exact h
set_option maxRecDepth 100000 in
set_option maxHeartbeats 1000000 in
theorem same25_l {w : World} {va vb : Value} {l : List Rat} (ha : IsV w (Old w) va (rawV l)) (hb : IsV w (Old w) vb (rawV l)) :
    Calls Tryz.prog 49 #[va, vb] w fun e w' => e = .returned (.bool true) ∧ Below w.heap.size w w' := by
  have HA := Lib.hid ha
  have HB := Lib.hid hb
  obtain ⟨A, cA, rfl, hl9⟩ := zcb ha
  obtain ⟨B, cB, rfl, _⟩ := zcb hb
  obtain ⟨n, hn⟩ : ∃ n, n = l.length := ⟨_, rfl⟩
  have e1 : (rawV l).length = n := by rw [hn]; exact List.length_map _
  rw [e1] at HA HB hl9 ⊢
  have Hn := Lib.hid hn
  clear ha hb hn e1
  go_enter Tryz.func49, Tryz.ntmps49
  go_wp2_with fail
  go_loopw [5] (fun i wr => ∃ k : Nat, k ≤ n ∧ i = .int .i64 (k : Nat) ∧ Below w.heap.size w wr) (fun i _ => n - (intOf i).toNat)
  case atStart => exact ⟨0, Nat.zero_le _, rfl, Below.refl _ _⟩
  case round =>
    obtain ⟨k, hk, rfl, hbw⟩ := hrel
    have HBW := Lib.hid hbw
    rcases Nat.lt_or_ge k n with hlt | hge
    · obtain ⟨x, hx⟩ : ∃ x, l[k]? = some x := ⟨_, List.getElem?_eq_getElem (by rw [← Hn.out]; exact hlt)⟩
      have hr : (rawV l)[k]? = some (raw x) := by unfold rawV; rw [List.getElem?_map, hx]; rfl
      obtain ⟨b1, o1, X1, X2, X3, X4, rfl, hS1, el1, u0, u1, u2⟩ := isV_get HA.out hr
      obtain ⟨b2, o2, Y1, Y2, Y3, Y4, rfl, hS2, el2, t0, t1, t2⟩ := isV_get HB.out hr
      obtain ⟨x0, hx0⟩ : ∃ s, s = (raw x).neg := ⟨_, rfl⟩
      obtain ⟨x1, hx1⟩ : ∃ s, s = (raw x).num.length := ⟨_, rfl⟩
      obtain ⟨x2, hx2⟩ : ∃ s, s = (raw x).den.length := ⟨_, rfl⟩
      rw [← hx0, ← hx1, ← hx2] at el1 el2
      rw [← hx0] at u0 t0
      rw [← hx1] at u1 t1
      rw [← hx2] at u2 t2
      have Q1 : Hid (IsQ wr (Old wr) _ x) := IsQ.stb.to (isR_isQ el1) (zby hbw)
      have Q2 : Hid (IsQ wr (Old wr) _ x) := IsQ.stb.to (isR_isQ el2) (zby hbw)
      replace u0 := zac hbw u0
      replace u1 := zac hbw u1
      replace u2 := zac hbw u2
      replace t0 := zac hbw t0
      replace t1 := zac hbw t1
      replace t2 := zac hbw t2
      have HS := hs6 u0 u1 u2 t0 t1 t2
      have hk0 : (0 : Int) ≤ (k : Int) := by omega
      have hk1 : (k : Int) < (n : Int) := by omega
      have HK := Lib.hid hlt
      clear hx hr hx0 hx1 hx2 el1 el2 hS1 hS2 hbw u0 u1 u2 t0 t1 t2 hlt
      go_wp2_with fail
      go_region_held3 (SH.mk _ HS).s
        (exact HS.out _ bel)
        (first
          | (go_at_call 41; (with_reducible refine Calls.mono (same_q (uQ _ Q1) (uQ _ Q2)) ?_); rintro e w5 ⟨rfl, hb5⟩))
      have B5 := Lib.hid (zaa HBW.out (show Below wr.heap.size wr w5 from bel))
      go_wp2_with fail
      go_roundw
      case rel => exact ⟨k + 1, by have := HK.out; omega, by go_num, B5.out⟩
      case measure => have := HK.out; simp [intOf]; omega
    · obtain rfl : k = n := by omega
      clear hbw hge hk
      go_wp2_with fail
      go_ret
      exact ⟨rfl, HBW.out⟩
set_option maxRecDepth 100000 in
set_option maxHeartbeats 2000000 in
theorem lives25_l {w : World} (hB : Bru w) : Calls Tryz.prog 30 #[] w fun e w' => e = .returned (.bool true) ∧ Below w.heap.size w w' := by
  have HB := Lib.hid hB
  clear hB
  go_enter Tryz.func30, Tryz.ntmps30
  go_wp2_with fail
  refine (second_l w).mono ?_
  rintro e w1 ⟨⟨v1, rfl, hv1⟩, hb1⟩
  have N1 := Lib.hid hv1
  obtain ⟨A1, c1, B1, d1, rfl, _, _⟩ := hv1
  obtain ⟨wa, hwa, hba, ra, Hza⟩ := zao w1 #[.int .i64 1, .int .i64 0, .int .i64 0, .int .i64 1] 3
  have Ia := Lib.hid (isIL_row (l := [1, 0, 0, 1]) ra (by decide) (by decide))
  have BA := Lib.hid (zaa hb1 hba)
  have NA := Lib.hid (N1.out.next hba)
  clear hb1 hba ra
  go_wp2_with fail
  clear hwa
  refine (parts25_l Ia.out rfl (by decide) (by decide) (n := 2) (by omega) (by omega)).mono ?_
  rintro e w2 ⟨⟨v2, rfl, hv2⟩, hb2⟩
  have V2 : Hid (IsV w2 (Old w2) v2 ((zaz [2, 2] exA).map raw)) := by rw [Hid, exA_hist]; exact IsV.stb.old hv2
  have N2 := Lib.hid (NA.out.next hb2)
  have B2 := Lib.hid (zaa BA.out hb2)
  obtain ⟨P2, k2, e2, _⟩ := zcb hv2
  replace e2 : v2 = .slice P2 4 k2 := e2
  subst e2
  clear hv2 hb2 Ia
  go_wp2_with fail
  have hint := paysZ_int sec_form
  refine (cslack_ok N2.out sec_form.nf V2.out (hist_pr exA_ok (by decide) (by decide) (by decide)) (hist_gain hint (by decide) (by decide) (by decide)) (fun p x t _ _ => (zft hint (by decide) (by decide) (by decide) p t).fz) (slack_l1 hint (by decide) (by decide) (by decide)) (Bru.next HB.out B2.out)).mono ?_
  rw [exA_slack]
  rintro e w3 ⟨⟨v3, rfl, hv3⟩, hb3⟩
  have Q3 := Lib.hid (IsQ.stb.to hv3 (zav tu_lt))
  obtain ⟨s3, A3, n3, c3, B3, m3, d3, rfl⟩ := zca hv3
  obtain ⟨wb, hwb, hbb, rb, Hzb⟩ := zao w3 #[.bool false, .slice none 0 0, .slice none 0 0] 30
  obtain ⟨wc, hwc⟩ : ∃ x, (put3 wb w3.heap.size (.bool s3) (.slice A3 n3 c3) (.slice B3 m3 d3)) = x := ⟨_, rfl⟩
  have hbc : Below w3.heap.size w3 wc := by rw [← hwc]; exact zad hbb (Nat.le_refl _) _ _ _
  have RC : Hid (Row wc w3.heap.size 30 [.bool s3, .slice A3 n3 c3, .slice B3 m3 d3]) := by rw [← hwc]; exact rb.put3 _ _ _
  have QC := Lib.hid (IsQ.stb.next Q3.out hbc)
  have BC := Lib.hid (zaa B2.out (zaa hb3 hbc))
  obtain ⟨b0, b1, b2⟩ := zab rb
  obtain ⟨i0, i1, i2⟩ := zan rb
  clear hb3 hbb hbc rb hv3 N2 V2 NA BA B2 Q3 N1
  go_wp2_with fail
  clear hwb hwc b0 b1 b2 i0 i1 i2
  refine (second_l wc).mono ?_
  rintro e w4 ⟨⟨v4, rfl, hv4⟩, hb4⟩
  have N4 := Lib.hid hv4
  obtain ⟨A4, c4, B4, d4, rfl, _, _⟩ := hv4
  obtain ⟨wd, hwd, hbd, rd1, rd2, rd3, Hzd⟩ := zde w4 #[.int .i64 0, .int .i64 0] #[.int .i64 0, .int .i64 1] #[.int .i64 0, .int .i64 0] 3 3 3
  obtain ⟨we, hwe, hbe, re, Hze⟩ := zao wd #[.slice (some ⟨w4.heap.size, 0, none⟩) 2 2, .slice (some ⟨w4.heap.size + 1, 0, none⟩) 2 2, .slice (some ⟨w4.heap.size + 1 + 1, 0, none⟩) 2 2] 22
  have K1 : IsK .i64 we (Old we) (.slice (some ⟨w4.heap.size, 0, none⟩) 2 2) [0, 0] := (zfd (l := [0, 0]) (rd1.next hbe) rfl (by unfold maxLen; decide)).isK fun b _ h => h
  have K2 : IsK .i64 we (Old we) (.slice (some ⟨w4.heap.size + 1, 0, none⟩) 2 2) [0, 1] := (zfd (l := [0, 1]) (rd2.next hbe) rfl (by unfold maxLen; decide)).isK fun b _ h => h
  have K3 : IsK .i64 we (Old we) (.slice (some ⟨w4.heap.size + 1 + 1, 0, none⟩) 2 2) [0, 0] := (zfd (l := [0, 0]) (rd3.next hbe) rfl (by unfold maxLen; decide)).isK fun b _ h => h
  have PL : Hid (IsPl we (.slice (some ⟨wd.heap.size, 0, none⟩) 3 3) exB) := isS_row (es := [.slice (some ⟨w4.heap.size, 0, none⟩) 2 2, .slice (some ⟨w4.heap.size + 1, 0, none⟩) 2 2, .slice (some ⟨w4.heap.size + 1 + 1, 0, none⟩) 2 2]) (l := exB) re re.lt (by intro u hu; simp at hu; rcases hu with rfl | rfl | rfl <;> rfl) (All2.snoc (a := [_, _]) (b := [_, _]) (all2_two K1 K2) K3) (by simp [exB])
  have B4 := Lib.hid (zaa BC.out (zaa hb4 (zaa hbd hbe)))
  have NE := Lib.hid (N4.out.next (zaa hbd hbe))
  have RE := Lib.hid (RC.out.next (zaa hb4 (zaa hbd hbe)))
  have QE := Lib.hid (IsQ.stb.next QC.out (zaa hb4 (zaa hbd hbe)))
  clear hb4 hbd rd1 rd2 rd3 hbe re K1 K2 K3 RC QC BC N4
  go_wp2_with fail
  clear hwd hwe
  refine (hist_a NE.out sec_form.nf PL.out exB_ok (by decide) (by decide) (Bru.next HB.out B4.out) (hist_l1 (by decide) (by decide))).mono ?_
  rw [exB_hist]
  rintro e w5 ⟨⟨v5, rfl, hv5⟩, hb5⟩
  have V5 := Lib.hid hv5
  obtain ⟨P5, k5, e5, _⟩ := zcb hv5
  replace e5 : v5 = .slice P5 4 k5 := e5
  subst e5
  have B5 := Lib.hid (zaa B4.out hb5)
  have RG := Lib.hid (RE.out.next hb5)
  have QG := Lib.hid (IsQ.stb.next QE.out hb5)
  obtain ⟨b0, b1, b2⟩ := zab RG.out
  have HS := hs3 b0 b1 b2
  clear hv5 hb5 NE PL B4 RE QE b0 b1 b2
  go_wp2_with fail
  refine wp_region_noPanic ?_
  refine zck [] (SH.mk _ HS).s (fun _ => True) kr (HS.out _ bel) trivial (fun hHeld hC2 => ?_)
  refine pB 0 21 ?_
  refine pB 1 22 ?_
  refine pB 2 23 ?_
  refine pB 3 24 ?_
  refine oneA (i := 4) kr rfl rfl fun K hK => ?_
  go_simp
  go_at_call 35
  (with_reducible refine Calls.mono (whole_i (w := w5.drew) (n := 1) (by decide) (q := 1) rfl) ?_)
  rintro e w6 ⟨⟨v6, rfl, hv6⟩, hb6⟩
  have V6 := Lib.hid (IsQ.stb.old hv6)
  have B6 : Hid (Below w5.heap.size w5 w6) := (zam w5).trans hb6
  obtain ⟨s6, P6, n6, k6, O6, m6, l6, rfl⟩ := zca hv6
  clear hv6 hb6
  (focus go_wp2_with fail)
  refine hK.out _ _ (HS.out _ B6.out) trivial fun hHeld hC2 => ?_
  clear hK K
  refine sP ?_
  refine oneA (i := 5) kr rfl rfl fun K hK => ?_
  go_simp
  go_at_call 41
  (with_reducible refine Calls.mono (same_q (IsQ.stb.next QG.out B6.out) V6.out) ?_)
  rintro e w7 ⟨rfl, hb7⟩
  have B7 := Lib.hid (zaa B6.out hb7)
  clear hb7
  (focus go_wp2_with fail)
  refine hK.out _ _ (HS.out _ B7.out) trivial fun hHeld hC2 => ?_
  clear hK K
  refine sP ?_
  refine pB 6 27 ?_
  refine pB 7 28 ?_
  refine pB 8 29 ?_
  refine pB 9 30 ?_
  refine pB 10 31 ?_
  refine pB 11 32 ?_
  refine pB 12 33 ?_
  refine oneA (i := 13) kr rfl rfl fun K hK => ?_
  go_simp
  obtain ⟨wf, hwf, hbf, rf, Hzf⟩ := zao w7 #[.int .i64 2, .int .i64 1, .int .i64 0, .int .i64 0] 3
  rw [hwf]
  have If := Lib.hid (isIL_row (l := [2, 1, 0, 0]) rf (by decide) (by decide))
  have B8 := Lib.hid (zaa B7.out hbf)
  refine hK.out _ _ (HS.out _ B8.out) trivial fun hHeld hC2 => ?_
  clear hK K hwf hbf rf
  refine sP ?_
  refine oneA (i := 14) kr rfl rfl fun K hK => ?_
  go_simp
  go_at_call 93
  (with_reducible refine Calls.mono (parts25_l If.out rfl (by decide) (by decide) (n := 3) (by omega) (by omega)) ?_)
  rintro e w9 ⟨⟨v9, rfl, hv9⟩, hb9⟩
  have V9 := Lib.hid (IsV.stb.old hv9)
  have B9 := Lib.hid (zaa B8.out hb9)
  obtain ⟨P9, k9, e9, _⟩ := zcb hv9
  replace e9 : v9 = .slice P9 4 k9 := e9
  subst e9
  clear hv9 hb9
  (focus go_wp2_with fail)
  refine hK.out _ _ (HS.out _ B9.out) trivial fun hHeld hC2 => ?_
  clear hK K
  refine sP ?_
  refine oneA (i := 15) kr rfl rfl fun K hK => ?_
  go_simp
  go_at_call 49
  (with_reducible refine Calls.mono (same25_l (IsV.stb.next V5.out B9.out) V9.out) ?_)
  rintro e w10 ⟨rfl, hb10⟩
  have B10 := Lib.hid (zaa B9.out hb10)
  clear hb10
  (focus go_wp2_with fail)
  refine hK.out _ _ (HS.out _ B10.out) trivial fun hHeld hC2 => ?_
  clear hK K
  refine sP ?_
  refine pB 16 37 ?_
  refine pB 17 0 ?_
  refine zfs kr ?_ _
  refine NoPanic.normal ?_
  go_wp2_with fail
  go_ret
  exact ⟨rfl, zaa B5.out B10.out⟩
set_option maxHeartbeats 400000 in
theorem mod_n (w : World) (a n : Int) (h0 : -9223372036854775808 ≤ a) (h9 : a ≤ 9223372036854775807) (hn : 1 ≤ n) (hn1 : n ≤ 1000000000) :
    Calls Tryz.prog 32 #[.int .i64 a, .int .i64 n] w fun e w' => e = .returned (.int .i64 (a % n)) ∧ w = w' := by
  have e0 := Int.emod_nonneg a (show n ≠ 0 by omega)
  have e1 := Int.emod_lt_of_pos a (show 0 < n by omega)
  have ht : (a.tmod n = a % n ∧ (a < 0 → a % n = 0)) ∨ a.tmod n = a % n - n := by
    rw [Int.tmod_eq_emod]
    split
    · rename_i hd
      refine .inl ⟨by omega, fun hneg => ?_⟩
      rcases hd with hd | hd
      · omega
      · exact Int.emod_eq_zero_of_dvd hd
    · exact .inr og
  rcases Int.lt_or_le a 0 with h | h
  · have hne : (n == 0) = false := beq_eq_false_iff_ne.2 og
    rcases Int.lt_or_le (a.tmod n) 0 with h2 | h2
    · have hm : Hid (a.tmod n + n = a % n) := by unfold Hid; rcases ht with ⟨h3, h4⟩ | h3 <;> omega
      have hb : -1000000000 ≤ a.tmod n := oh hm
      clear ht
      go_enter Tryz.func32, Tryz.ntmps32
      go_wp2
      go_ret
      exact ⟨zae hm.out, rfl⟩
    · have hm : Hid (a.tmod n = a % n) := by unfold Hid; rcases ht with ⟨h3, h4⟩ | h3 <;> omega
      clear ht
      go_enter Tryz.func32, Tryz.ntmps32
      go_wp2
      go_ret
      exact ⟨zae hm.out, rfl⟩
  · clear ht
    go_enter Tryz.func32, Tryz.ntmps32
    go_wp2
    go_ret
    exact ⟨rfl, rfl⟩
end Go.Proofs.YtijjjbgnpfjpmaaGreatDoor
