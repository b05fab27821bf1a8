/-
  The zbe of package dual's dot.
-/
import Derived.Test.YtblpaocignlpkaaGreatDoorCore08
import Derived.Test.YtblpaocignlpkaaGreatDoorCore10
import Derived.Maps.OwnIn
import Derived.Test.YtblpaocignlpkaaGreatDoorCore07
namespace Go.Proofs.YtblpaocignlpkaaGreatDoor
open Go.RowKit Go.Shelf
attribute [local go_sem] Oper.semAt_some
set_option linter.unusedVariables false
def sumP (l : List (Rat × Rat)) : Rat := l.foldl (fun s p => s + p.1 * p.2) 0
def dotQ (a b : List Rat) : Rat := sumP (a.zip b)
theorem sumP_snoc (l : List (Rat × Rat)) (x : Rat × Rat) : sumP (l ++ [x]) = sumP l + x.1 * x.2 := by simp [sumP]
theorem sumP_szA {n : Nat} : ∀ (l : List (Rat × Rat)) (s : Rat) (m : Nat), Sz s m → (∀ p ∈ l, Sz p.1 n ∧ Sz p.2 n) → Sz (l.foldl (fun s p => s + p.1 * p.2) s) (m + l.length * (2 * n + 1))
  | [], _, _, h, _ => by simpa using h
  | p :: l, s, m, h, hl => by
    have := sumP_szA l (s + p.1 * p.2) (m + (n + n) + 1) (h.add ((hl p (List.mem_cons_self ..)).1.mul (hl p (List.mem_cons_self ..)).2) |>.le (by omega)) fun q hq => hl q (List.mem_cons_of_mem _ hq)
    exact this.le (by rw [List.length_cons, Nat.add_mul]; omega)
theorem sumP_sz {n : Nat} {l : List (Rat × Rat)} (h : ∀ p ∈ l, Sz p.1 n ∧ Sz p.2 n) : Sz (sumP l) (1 + l.length * (2 * n + 1)) := sumP_szA l 0 1 Sz.zero h
def PairOk (w : World) (p : (Q3 × Rat) × (Q3 × Rat)) : Prop := IsQ w (Old w) (q3 p.1.1) p.1.2 ∧ IsQ w (Old w) (q3 p.2.1) p.2.2 ∧ Sz p.1.2 1024 ∧ Sz p.2.2 1024
abbrev Pair (w : World) := {p : (Q3 × Rat) × (Q3 × Rat) // PairOk w p}
def Pair.qs {w : World} (x : Pair w) : Rat × Rat := (x.1.1.2, x.1.2.2)
theorem sumP_pairs {w : World} (l : List (Pair w)) (hl : l.length ≤ 40) : Sz (sumP (l.map Pair.qs)) 100000 := by
  refine (sumP_sz (n := 1024) (l := l.map Pair.qs) fun p hp => ?_).le (by rw [List.length_map]; have := Nat.mul_le_mul_right (2 * 1024 + 1) hl; omega)
  obtain ⟨x, _, rfl⟩ := List.mem_map.1 hp
  exact ⟨x.2.2.2.1, x.2.2.2.2⟩
theorem exists_val {α : Type} {P : α → Prop} {l : List α} (h : ∀ x ∈ l, P x) : ∃ z : List {x // P x}, z.map Subtype.val = l := by
  induction l with
  | nil => exact ⟨[], rfl⟩
  | cons x l ih =>
    obtain ⟨z, rfl⟩ := ih fun y hy => h y (List.mem_cons_of_mem _ hy)
    exact ⟨⟨x, h x (List.mem_cons_self ..)⟩ :: z, rfl⟩
theorem exists_pairs {w : World} {ea eb : List Q3} {a b : List Rat} {M : Nat} (ha : All2 (fun x r => IsR w (Old w) (q3 x) r) ea (rawV a)) (hb : All2 (fun x r => IsR w (Old w) (q3 x) r) eb (rawV b)) (la : a.length = M) (lb : b.length = M)
    (sa : ∀ q ∈ a, Sz q 1024) (sb : ∀ q ∈ b, Sz q 1024) : ∃ z : List (Pair w), z.length = M ∧ z.map (fun x => x.1.1.1) = ea ∧ z.map (fun x => x.1.2.1) = eb ∧ z.map Pair.qs = a.zip b := by
  have lea : ea.length = M := by rw [ha.1]; simpa [rawV] using la
  have leb : eb.length = M := by rw [hb.1]; simpa [rawV] using lb
  obtain ⟨z, hz⟩ := exists_val (P := PairOk w) (l := (ea.zip a).zip (eb.zip b)) (by
    intro x hx
    obtain ⟨j, hj⟩ := List.getElem?_of_mem hx
    rw [List.getElem?_zip_eq_some, List.getElem?_zip_eq_some, List.getElem?_zip_eq_some] at hj
    obtain ⟨⟨h1, h2⟩, h3, h4⟩ := hj
    refine ⟨ha.2 j _ _ h1 ?_, hb.2 j _ _ h3 ?_, sa _ (List.mem_of_getElem? h2), sb _ (List.mem_of_getElem? h4)⟩
    · rw [rawV, List.getElem?_map, h2]; rfl
    · rw [rawV, List.getElem?_map, h4]; rfl)
  have l1 : (ea.zip a).map Prod.fst = ea := List.map_fst_zip (by omega)
  have l2 : (ea.zip a).map Prod.snd = a := List.map_snd_zip (by omega)
  have l3 : (eb.zip b).map Prod.fst = eb := List.map_fst_zip (by omega)
  have l4 : (eb.zip b).map Prod.snd = b := List.map_snd_zip (by omega)
  have m1 : ((ea.zip a).zip (eb.zip b)).map Prod.fst = ea.zip a := List.map_fst_zip (by rw [List.length_zip, List.length_zip]; omega)
  have m2 : ((ea.zip a).zip (eb.zip b)).map Prod.snd = eb.zip b := List.map_snd_zip (by rw [List.length_zip, List.length_zip]; omega)
  refine ⟨z, ?_, ?_, ?_, ?_⟩
  · rw [← List.length_map (f := Subtype.val), hz, List.length_zip, List.length_zip, List.length_zip]; omega
  · rw [← l1, ← m1, ← hz, List.map_map, List.map_map]; rfl
  · rw [← l3, ← m2, ← hz, List.map_map, List.map_map]; rfl
  · have : z.map Pair.qs = (z.map Subtype.val).map (fun p => (p.1.2, p.2.2)) := by rw [List.map_map]; rfl
    have hzm := List.zip_map (f := (Prod.snd : Q3 × Rat → Rat)) (g := (Prod.snd : Q3 × Rat → Rat)) (l₁ := ea.zip a) (l₂ := eb.zip b)
    rw [l2, l4] at hzm
    rw [this, hz, hzm]
    rfl
theorem cells_of_cell {w : World} {b o : Nat} {v : Value} (h : w.cell? ⟨b, o, none⟩ = some v) : ∃ obj, w.heap[b]? = some obj ∧ obj.isCells = true := by
  unfold World.cell? at h
  cases hb : w.heap[b]? with
  | none => simp [hb] at h
  | some obj => cases obj with
    | cells c t f => exact ⟨_, rfl, rfl⟩
    | _ => simp [hb] at h
def CellsIn (w : World) (S : Nat → Prop) : Nat → Prop := fun b => S b ∧ ∃ obj, w.heap[b]? = some obj ∧ obj.isCells = true
theorem IsK.cells {k : IntKind} {w : World} {S : Nat → Prop} {v : Value} {l : List Nat} (h : IsK k w S v l) : IsK k w (CellsIn w S) v l := by
  obtain ⟨A, c, hv, h1, h2, h3⟩ := h
  refine ⟨A, c, hv, h1, h2, fun hne => ?_⟩
  obtain ⟨b, off, hA, hS, hc⟩ := h3 hne
  refine ⟨b, off, hA, ⟨hS, ?_⟩, hc⟩
  cases hx : cel k l with
  | nil => exact absurd hx hne
  | cons u t => exact cells_of_cell (hc 0 u (by rw [hx]; rfl))
theorem IsQ.cells {w : World} {S : Nat → Prop} {v : Value} {q : Rat} (h : IsQ w S v q) : IsQ w (CellsIn w S) v q := by
  obtain ⟨A, c, B, d, hv, h1, h2⟩ := h
  exact ⟨A, c, B, d, hv, h1.cells, h2.cells⟩
theorem IsQ.others {X Y : World} {row : Option Nat} {S : Nat → Prop} {v : Value} {q : Rat} (h : IsQ X S v q) (hg : X.grownBy Y row) (hrow : ∀ r, row = some r → ∃ o, X.heap[r]? = some o ∧ o.isCells = false) : IsQ Y S v q := by
  refine IsQ.stb.to h.cells fun b hb => ⟨hb.1, fun o => ?_⟩
  obtain ⟨obj, ho, hc⟩ := hb.2
  refine World.cell?_of_block (hg.block b (Array.getElem?_eq_some_iff.1 ho).1 fun e => ?_)
  obtain ⟨o2, ho2, hc2⟩ := hrow b e.symm
  rw [ho] at ho2
  cases ho2
  rw [hc] at hc2
  cases hc2
theorem Row.others {X Y : World} {row : Option Nat} {g : Nat} {t : TypeId} {xs : List Value} (h : Row X g t xs) (hg : X.grownBy Y row) (hrow : ∀ r, row = some r → ∃ o, X.heap[r]? = some o ∧ o.isCells = false) : Row Y g t xs := by
  refine h.grown hg fun e => ?_
  obtain ⟨o2, ho2, hc2⟩ := hrow g e.symm
  rw [show X.heap[g]? = _ from h] at ho2
  cases ho2
  cases hc2
def DotInv (s : Nat) {w : World} (pre : List (Pair w)) (W : World) : Prop :=
  ∃ sg vn vd, Row W s 31 [.bool sg, vn, vd] ∧ IsQ W (fun b => (w.heap.size < b ∧ b < W.heap.size) ∧ b ≠ s) (.agg #[.bool sg, vn, vd]) (sumP (pre.map Pair.qs))
theorem dotInv_own (s : Nat) {w : World} : Go.Own (DotInv s (w := w)) := by
  rintro pre X Y row ⟨sg, vn, vd, h1, h2⟩ hg hrow
  refine ⟨sg, vn, vd, h1.others hg hrow, ?_⟩
  exact IsQ.stb.to (h2.others hg hrow) (zat fun b hb => ⟨⟨hb.1.1, Nat.lt_of_lt_of_le hb.1.2 hg.size⟩, hb.2⟩)
theorem rowZ_own {β : Type} (m g : Nat) {t : TypeId} {xs : List Value} : OwnFrom m (fun (_ : β) W => Row W g t xs) := fun _ _ _ _ h hg hr => h.others hg fun r e => (hr r e).2
theorem sizeZ_own {β : Type} (m n : Nat) : OwnFrom m (fun (_ : β) W => n ≤ W.heap.size) := fun _ _ _ _ h hg _ => Nat.le_trans h hg.size
def q3c (x : Q3) : List Value := [.bool x.1, .slice x.2.1.1 x.2.1.2.1 x.2.1.2.2, .slice x.2.2.1 x.2.2.2.1 x.2.2.2.2]
def DotAx (n : Nat) (T : Nat → Nat → Q3 → Q3 → Array Value) {w : World} (x : Pair w) (a : Act) (W : World) : Prop :=
  ∃ gx gy, a = { tmps := T gx gy x.1.1.1 x.1.2.1, defers := [] } ∧ n ≤ gx ∧ n ≤ gy ∧ Row W gx 31 (q3c x.1.1.1) ∧ Row W gy 31 (q3c x.1.2.1)
theorem dotAx_own (n m : Nat) (T : Nat → Nat → Q3 → Q3 → Array Value) {w : World} (x : Pair w) (a : Act) : OwnFrom m (fun (_ : Unit) W => DotAx n T x a W) := by
  rintro _ X Y row ⟨gx, gy, h0, h1, h2, h3, h4⟩ hg hr
  exact ⟨gx, gy, h0, h1, h2, h3.others hg (fun r e => (hr r e).2), h4.others hg (fun r e => (hr r e).2)⟩
theorem zcu {W W' : World} (h : Below W.heap.size W W') : KeepsOthers W W' :=
  ⟨h.size, fun j o hj _ => (h.block j (Array.getElem?_eq_some_iff.1 hj).1).trans hj⟩
theorem heap_put3 (w : World) (g : Nat) (a b c : Value) {k : Nat} (h : k ≠ g) : (put3 w g a b c).heap[k]? = w.heap[k]? := by
  rw [put3, Below.heap_setCell _ _ _ _ h, Below.heap_setCell _ _ _ _ h, Below.heap_setCell _ _ _ _ h]
theorem keepsOthers_put3 (w : World) (g : Nat) (a b c : Value) : KeepsOthers w (put3 w g a b c) := ((KeepsOthers.setCell _ _ _).trans (KeepsOthers.setCell _ _ _)).trans (KeepsOthers.setCell _ _ _)
theorem kpzq_put3 {n₀ B s : Nat} {va vb : Value} (W : World) (x y z : Value) (h : n₀ ≤ s) (h1 : B ≠ s) (h2 : B + 1 ≠ s) : KpZQ n₀ B va vb W (put3 W s x y z) :=
  ⟨zbn (Below.refl _ _) h _ _ _, fun h => (heap_put3 _ _ _ _ _ h1).trans h, fun h => (heap_put3 _ _ _ _ _ h2).trans h⟩
theorem results_rat {fn : Func} {slot : Tmp} {tmps : Array Value} {w : World} {g : Nat} {x y z : Value} (hr : fn.results = #[.cell slot 31]) (ha : tmps.getD slot undef = .pointer (some ⟨g, 0, none⟩))
    (h : Row w g 31 [x, y, z]) : (results fn tmps).run Tryz.prog w = .ok (.agg #[x, y, z]) w := by
  obtain ⟨h0, h1, h2⟩ := zad h
  have ha' : tmps[slot]?.getD undef = .pointer (some ⟨g, 0, none⟩) := by simpa using ha
  simp [results, hr, ha', asAddr, go_sem, h0, h1, h2]
theorem putD_stb {W : World} {D : Nat} {S : Nat → Prop} {v : Value} {q : Rat} {o o' : Obj} (h : IsQ W S v q) (hD : W.heap[D]? = some o) (ho : o.isCells = false) : IsQ (W.putObj D o') S v q :=
  h.others (grownBy_putObj' W D o') (fun r e => by cases e; exact ⟨o, hD, ho⟩)
theorem Row.putD {W : World} {D g : Nat} {t : TypeId} {xs : List Value} {o o' : Obj} (h : Row W g t xs) (hD : W.heap[D]? = some o) (ho : o.isCells = false) : Row (W.putObj D o') g t xs :=
  h.others (grownBy_putObj' W D o') (fun r e => by cases e; exact ⟨o, hD, ho⟩)
set_option maxRecDepth 100000 in
set_option maxHeartbeats 4000000 in
theorem dot_q {w : World} {va vb : Value} {a b : List Rat} {M : Nat} (ha : IsV w (Old w) va (rawV a)) (hb : IsV w (Old w) vb (rawV b)) (hB : Bru w) (hla : a.length = M) (hlb : b.length = M) (hM : M ≤ 40) (sa : ∀ q ∈ a, Sz q 1024) (sb : ∀ q ∈ b, Sz q 1024) :
    Calls Tryz.prog 58 #[va, vb] w (RetQ w (dotQ a b)) := by
  obtain ⟨A, c, rfl, _⟩ := zau ha
  obtain ⟨B, d, rfl, _⟩ := zau hb
  have ela : (rawV a).length = M := by simp [rawV, hla]
  have elb : (rawV b).length = M := by simp [rawV, hlb]
  rw [ela] at ha
  rw [elb] at hb
  rw [ela, elb]
  obtain ⟨ea, hea, hea2, hea3⟩ := isV_els ha
  obtain ⟨eb, heb, heb2, heb3⟩ := isV_els hb
  obtain ⟨z, hz, rfl, rfl, hz3⟩ := exists_pairs hea3 heb3 hla hlb sa sb
  have Hea := Lib.hid hea
  have Heb := Lib.hid heb
  have Hzl := Lib.hid hz
  have HB := Lib.hid hB
  have Hq : Hid (dotQ a b = sumP (z.map Pair.qs)) := by rw [Hid, hz3]; rfl
  clear ha hb hea hea2 hea3 heb heb2 heb3 hla hlb ela elb sa sb hB hz hz3
  obtain ⟨w0, hw0, hb0, rZ, Hz⟩ := zbm w #[.bool false, .slice none 0 0, .slice none 0 0] 31
  have RZ := Lib.hid rZ
  have Hb0 := Lib.hid hb0
  clear rZ hb0
  refine (callsIn_wide (n := 3)).1 ?_
  refine callsIn_of_wp_marks Tryz.func58 rfl trivial ?_ rfl
  simp only [Tryz.ntmps58, List.size_toArray, List.length_cons, List.length_nil, Nat.reduceAdd, Nat.reduceSub, Array.replicate_succ, Array.replicate_zero, List.push_toArray, List.append_toArray, List.nil_append, List.cons_append]
  refine wpIn_wide.2 ?_
  go_wp2_with fail
  clear hw0
  refine (zero_q _).mono ?_
  rintro e w1 ⟨⟨v1, rfl, hv⟩, hb⟩
  obtain ⟨s1, P1, k1, O1, l1, rfl, _, _, _⟩ := zan hv
  have Hv := Lib.hid hv
  have Hb1 := Lib.hid (zaa Hb0.out hb)
  have RZ1 := Lib.hid (RZ.out.next hb)
  have hs0 : w0.heap.size ≤ w1.heap.size := hb.size
  clear hv hb
  go_wp2_with fail
  refine (zipq_n _ _ _ _ _ _ _).mono ?_
  rintro e w2 ⟨rfl, hb2, bA, bB, hz2⟩
  rw [World.size_alloc] at bA bB hz2
  have hbn : Below w1.heap.size w1 w2 := ((Below.refl _ w1).alloc (Nat.le_refl _) _).trans (hb2.mono (by simp))
  have RS : Hid (Row w2 w1.heap.size 31 [.bool s1, .slice P1 (lim 0).length k1, .slice O1 (lim 1).length l1]) := Row.next (heap_alloc_new w1 _) hb2
  have HV2 : Hid (IsQ w2 (fun b => (w.heap.size < b ∧ b < w2.heap.size) ∧ b ≠ w1.heap.size) (.agg #[.bool s1, .slice P1 (lim 0).length k1, .slice O1 (lim 1).length l1]) (sumP (([] : List (Pair w)).map Pair.qs))) :=
    IsQ.stb.to Hv.out (fun x hx => ⟨⟨⟨by have := hx.1; have := Hz.out; omega, by have := hx.2; omega⟩, by have := hx.2; omega⟩, fun o => hbn.cell (p := ⟨x, o, none⟩) hx.2⟩)
  have HBn := Lib.hid (zaa Hb1.out hbn)
  have RZ2 := Lib.hid (RZ1.out.next hbn)
  have HAB := Lib.hid (And.intro bA bB)
  simp only [World.size_alloc] at hz2 ⊢
  clear hb2 hbn bA bB
  go_wp2_with fail
  have hn0 : w.heap.size ≤ w2.heap.size := HBn.out.size
  have hn1 : w.heap.size + 1 ≤ w1.heap.size := by have := Hz.out; omega
  refine (wpIn_wide (n := 3)).1 ?_
  refine wpIn_rangeFunc_ownH rfl (by omega) (gf := 149) (lb := #[.pointer (some ⟨w1.heap.size + 1, 0, none⟩), .pointer (some ⟨w1.heap.size + 1 + 1, 0, none⟩)]) rfl trivial (enters_of Tryz.func149 (by kernel_rfl) rfl)
    (zipq_seq (fun x => x.1.1.1) (fun x => x.1.2.1) z 2 (by omega) w.heap.size (w1.heap.size + 1) A B c d M Hzl.out (by omega) w2 (by omega) HAB.out.1 HAB.out.2 (Hea.out.below HBn.out (Nat.le_refl _)) (Heb.out.below HBn.out (Nat.le_refl _)) hn0)
    kpzq_t (kpzq_b hn0) (Below.refl _ _) (fun _ => rfl)
    (fun pre W => DotInv w1.heap.size pre W ∧ Below w.heap.size w W ∧ Row W w.heap.size 31 [.bool false, .slice none 0 0, .slice none 0 0] ∧ w2.heap.size ≤ W.heap.size) (fun _ _ _ => False)
    (OwnFrom.and (Own.from (dotInv_own _) _) (OwnFrom.and (ownFrom_below (Nat.le_refl _) hn0) (OwnFrom.and (rowZ_own _ _) (sizeZ_own _ _)))) (fun _ _ _ _ _ hs _ _ => hs)
    ⟨⟨_, _, _, RS.out, HV2.out⟩, HBn.out, RZ2.out, Nat.le_refl _⟩
    (DotAx w2.heap.size (fun gx gy x y => #[.slice A M c, .slice B M d, undef, undef, .pointer (some ⟨w.heap.size, 0, none⟩), .pointer (some ⟨w1.heap.size, 0, none⟩), .pointer (some ⟨gx, 0, none⟩), .pointer (some ⟨gy, 0, none⟩),
      .agg #[.bool s1, .slice P1 (lim 0).length k1, .slice O1 (lim 1).length l1], .slice A M c, .slice B M d, .func (.func 149) #[] #[.pointer (some ⟨w1.heap.size + 1, 0, none⟩), .pointer (some ⟨w1.heap.size + 1 + 1, 0, none⟩)],
      q3 x, q3 y, undef, undef, undef, undef, undef, undef])) (fun _ _ => dotAx_own _ _ _ _ _) ?assign ?body ?done ?stop
  case assign =>
    rintro l pre ⟨⟨⟨⟨x0, ⟨x1, x2, x3⟩, ⟨x4, x5, x6⟩⟩, qx⟩, ⟨⟨y0, ⟨y1, y2, y3⟩, ⟨y4, y5, y6⟩⟩, qy⟩⟩, hok⟩ W K ⟨⟨sg, vn, vd, rS, hvS⟩, hBw, rZ, hnn⟩ hK
    obtain ⟨W0, hW0, hbW, rX, rY, hzW⟩ := zcl W #[.bool x0, .slice x1 x2 x3, .slice x4 x5 x6] #[.bool y0, .slice y1 y2 y3, .slice y4 y5 y6] 31 31
    have HX := Lib.hid (And.intro rX rY)
    have HbW := Lib.hid hbW
    have HS := Lib.hid (And.intro rS hvS)
    have HBw := Lib.hid (And.intro hBw rZ)
    clear rX rY hbW rS hvS hBw rZ
    dsimp only [q3]
    gi_wp2
    have hnW : w.heap.size ≤ W.heap.size := HBw.out.1.size
    have hsW : w1.heap.size < W.heap.size := HS.out.1.lt
    refine hK _ _ ((zcu HbW.out).from _) (kpzq_of HbW.out hnW) ⟨⟨_, _, _, HS.out.1.next HbW.out, IsQ.stb.to HS.out.2 (fun x hx => ⟨⟨⟨hx.1.1, by have := hzW.out; have := hx.1.2; omega⟩, hx.2⟩, fun o => HbW.out.cell (p := ⟨x, o, none⟩) hx.1.2⟩)⟩, zaa HBw.out.1 HbW.out, HBw.out.2.next HbW.out, by have := hzW.out; omega⟩ ⟨_, _, rfl, hnn, by omega, HX.out.1, HX.out.2⟩
  case body =>
    rintro l pre x a' W hlW hrec ⟨⟨sg, vn, vd, rS, hvS⟩, hBw, rZ, hnn⟩ ⟨gx, gy, rfl, hgx, hgy, rX, rY⟩ hlt
    have hmap : (pre ++ [x]).map Pair.qs = pre.map Pair.qs ++ [(x.1.1.2, x.1.2.2)] := by rw [List.map_append]; rfl
    generalize pre ++ [x] = pre' at hmap ⊢
    obtain ⟨⟨⟨⟨x0, ⟨x1, x2, x3⟩, ⟨x4, x5, x6⟩⟩, qx⟩, ⟨⟨y0, ⟨y1, y2, y3⟩, ⟨y4, y5, y6⟩⟩, qy⟩⟩, hok⟩ := x
    dsimp only [q3, q3c, PairOk] at rX rY hok ⊢
    obtain ⟨S0, hS0⟩ : ∃ S0, S0 = sumP (pre.map Pair.qs) := ⟨_, rfl⟩
    obtain ⟨p, hp⟩ : ∃ p, p = qx * qy := ⟨_, rfl⟩
    obtain ⟨S1, hS1⟩ : ∃ S1, S1 = S0 + p := ⟨_, rfl⟩
    have hend : S1 = sumP (pre'.map Pair.qs) := by rw [hmap, sumP_snoc, hS1, hS0, hp]
    have Hend := Lib.hid hend
    have Hss : Hid (Sz S0 100000) := by rw [Hid, hS0]; exact sumP_pairs pre (by omega)
    have Hsp : Hid (Sz p 100000) := by rw [Hid, hp]; exact (hok.2.2.1.mul hok.2.2.2).le (by omega)
    have Hsx : Hid (Sz qx 100000) := hok.2.2.1.le (by omega)
    have Hsy : Hid (Sz qy 100000) := hok.2.2.2.le (by omega)
    rw [← hS0] at hvS
    have Hp := Lib.hid hp
    have HS1 := Lib.hid hS1
    have hnW : w.heap.size ≤ W.heap.size := hBw.size
    have HBw := Lib.hid (And.intro hBw rZ)
    have hvS' := IsQ.stb.to hvS (T := Old W) (zat fun b hb => hb.1.2)
    clear hvS
    have Qx_0 := Lib.hid (IsQ.stb.to hok.1 (zag hBw))
    have Qy_0 := Lib.hid (IsQ.stb.to hok.2.1 (zag hBw))
    have V_0 := Lib.hid (hvS')
    have Rs_0 := Lib.hid (rS)
    have Rx_0 := Lib.hid (rX)
    have Ry_0 := Lib.hid (rY)
    have Zr_0 := Lib.hid (rZ)
    have B_0 := Lib.hid (Bru.next HB.out hBw)
    have bW_0 := Lib.hid (Below.refl W.heap.size W)
    have sz_0 := Lib.hid (Nat.le_refl W.heap.size)
    obtain ⟨sg', A1, cA1, B1, cB1, hve, _, _, _⟩ := zan V_0.out
    simp only [Value.agg.injEq, Array.mk.injEq, List.cons.injEq, Value.bool.injEq] at hve
    obtain ⟨rfl, rfl, rfl, _⟩ := hve
    clear rS rX rY rZ hok hBw hvS' hS0 hp hS1 hend hmap
    obtain ⟨cRs0_1, cRs1_1, cRs2_1⟩ := zad Rs_0.out
    obtain ⟨fRs0_1, fRs1_1, fRs2_1⟩ := zax Rs_0.out
    obtain ⟨cRx0_2, cRx1_2, cRx2_2⟩ := zad Rx_0.out
    obtain ⟨cRy0_3, cRy1_3, cRy2_3⟩ := zad Ry_0.out
    gi_wp2
    have hmo : Tryz.prog.follows .mixedOrders = true := by kernel_rfl
    have Qx_1 := Lib.hid (IsQ.stb.next Qx_0.out (zac _))
    have Qy_1 := Lib.hid (IsQ.stb.next Qy_0.out (zac _))
    have V_1 := Lib.hid (IsQ.stb.next V_0.out (zac _))
    have Rs_1 := Lib.hid (Row.next Rs_0.out (zac _))
    have Rx_1 := Lib.hid (Row.next Rx_0.out (zac _))
    have Ry_1 := Lib.hid (Row.next Ry_0.out (zac _))
    have Zr_1 := Lib.hid (Row.next Zr_0.out (zac _))
    have B_1 := Lib.hid (Bru.next B_0.out (zac _))
    have bW_1 := Lib.hid (zaa bW_0.out (zac _))
    have sz_1 := Lib.hid (zam sz_0.out (zac _))
    clear Qx_0 Qy_0 V_0 Rs_0 Rx_0 Ry_0 Zr_0 B_0 bW_0 sz_0
    clear cRs0_1 cRs1_1 cRs2_1 fRs0_1 fRs1_1 fRs2_1 cRx0_2 cRx1_2 cRx2_2 cRy0_3 cRy1_3 cRy2_3
    obtain ⟨cRs0_4, cRs1_4, cRs2_4⟩ := zad Rs_1.out
    obtain ⟨fRs0_4, fRs1_4, fRs2_4⟩ := zax Rs_1.out
    obtain ⟨cRx0_5, cRx1_5, cRx2_5⟩ := zad Rx_1.out
    obtain ⟨cRy0_6, cRy1_6, cRy2_6⟩ := zad Ry_1.out
    gi_region_with_o (first
        | ((refine And.intro trivial ?_); gi_at_call 92; have hc := times_q Qx_1.out Qy_1.out B_1.out Hsx.out Hsy.out Hp.out; (with_reducible refine CallsIn.inRound _ (callsIn_wide.2 (hc.mono ?_))); clear hc; rintro e w3 ⟨⟨v3, rfl, hv3⟩, hb⟩; have newP := Lib.hid (IsQ.stb.old hv3); have Qx_2 := Lib.hid (IsQ.stb.next Qx_1.out (hb)); have Qy_2 := Lib.hid (IsQ.stb.next Qy_1.out (hb)); have V_2 := Lib.hid (IsQ.stb.next V_1.out (hb)); have Rs_2 := Lib.hid (Row.next Rs_1.out (hb)); have Rx_2 := Lib.hid (Row.next Rx_1.out (hb)); have Ry_2 := Lib.hid (Row.next Ry_1.out (hb)); have Zr_2 := Lib.hid (Row.next Zr_1.out (hb)); have B_2 := Lib.hid (Bru.next B_1.out (hb)); have bW_2 := Lib.hid (zaa bW_1.out (hb)); have sz_2 := Lib.hid (zam sz_1.out (hb)); clear Qx_1 Qy_1 V_1 Rs_1 Rx_1 Ry_1 Zr_1 B_1 bW_1 sz_1; have P_0 := newP; clear newP; obtain ⟨s3, P3, k3, O3, l3, rfl, _, _, _⟩ := zan hv3; clear cRs0_4 cRs1_4 cRs2_4 fRs0_4 fRs1_4 fRs2_4 cRx0_5 cRx1_5 cRx2_5 cRy0_6 cRy1_6 cRy2_6; obtain ⟨cRs0_7, cRs1_7, cRs2_7⟩ := zad Rs_2.out; obtain ⟨fRs0_7, fRs1_7, fRs2_7⟩ := zax Rs_2.out; obtain ⟨cRx0_8, cRx1_8, cRx2_8⟩ := zad Rx_2.out; obtain ⟨cRy0_9, cRy1_9, cRy2_9⟩ := zad Ry_2.out)
        | ((refine And.intro trivial ?_); gi_at_call 91; have hc := plus_q V_2.out P_0.out B_2.out Hss.out Hsp.out HS1.out; (with_reducible refine CallsIn.inRound _ (callsIn_wide.2 (hc.mono ?_))); clear hc; rintro e w4 ⟨⟨v4, rfl, hv4⟩, hb⟩; have newU := Lib.hid (IsQ.stb.le hv4 sz_2.out); have Qx_3 := Lib.hid (IsQ.stb.next Qx_2.out (hb)); have Qy_3 := Lib.hid (IsQ.stb.next Qy_2.out (hb)); have V_3 := Lib.hid (IsQ.stb.next V_2.out (hb)); have Rs_3 := Lib.hid (Row.next Rs_2.out (hb)); have Rx_3 := Lib.hid (Row.next Rx_2.out (hb)); have Ry_3 := Lib.hid (Row.next Ry_2.out (hb)); have Zr_3 := Lib.hid (Row.next Zr_2.out (hb)); have B_3 := Lib.hid (Bru.next B_2.out (hb)); have bW_3 := Lib.hid (zaa bW_2.out (hb)); have sz_3 := Lib.hid (zam sz_2.out (hb)); have P_1 := Lib.hid (IsQ.stb.next P_0.out (hb)); clear Qx_2 Qy_2 V_2 Rs_2 Rx_2 Ry_2 Zr_2 B_2 bW_2 sz_2 P_0; have U_0 := newU; clear newU; obtain ⟨s4, P4, k4, O4, l4, rfl, _, _, _⟩ := zan hv4; clear cRs0_7 cRs1_7 cRs2_7 fRs0_7 fRs1_7 fRs2_7 cRx0_8 cRx1_8 cRx2_8 cRy0_9 cRy1_9 cRy2_9; obtain ⟨cRs0_10, cRs1_10, cRs2_10⟩ := zad Rs_3.out; obtain ⟨fRs0_10, fRs1_10, fRs2_10⟩ := zax Rs_3.out; obtain ⟨cRx0_11, cRx1_11, cRx2_11⟩ := zad Rx_3.out; obtain ⟨cRy0_12, cRy1_12, cRy2_12⟩ := zad Ry_3.out))
    all_goals (
      change KeepsFrom _ _ _ ∧ KpZQ _ _ _ _ _ _ ∧ _
      have hnn4 := zam hnn bW_3.out
      refine ⟨((zcu bW_3.out).trans (keepsOthers_put3 _ _ _ _ _)).from _, kpzq_t (kpzq_of bW_3.out hnW) (kpzq_put3 _ _ _ _ (by omega) (by omega) (by omega)), ⟨_, _, _, Row.put3 Rs_3.out _ _ _, ?_⟩, zbn (zaa HBw.out.1 bW_3.out) (by omega) _ _ _, (heap_put3 _ _ _ _ _ (by omega)).trans Zr_3.out, by rw [zcb]; exact hnn4⟩
      rw [← Hend.out]
      exact IsQ.stb.to U_0.out (zbw fun x hx => ⟨by have := hx.1; omega, by have := hx.1; rw [zcb]; exact ⟨⟨by omega, hx.2⟩, by omega⟩⟩))
  case done =>
    rintro D xs W hD rfl ⟨⟨sg, vn, vd, rS, hvS⟩, hBw, rZ, hnn⟩ hK
    have HvS := Lib.hid hvS
    have HBw := Lib.hid hBw
    have RS1 := Lib.hid rS
    have RZ3 := Lib.hid rZ
    have HK := Lib.hid hK
    obtain ⟨sg', A1, cA1, B1, cB1, hve, _, _, _⟩ := zan hvS
    simp only [Value.agg.injEq, Array.mk.injEq, List.cons.injEq, Value.bool.injEq] at hve
    obtain ⟨rfl, rfl, rfl, _⟩ := hve
    obtain ⟨c0, c1, c2⟩ := zad rS
    obtain ⟨d0, d1, d2⟩ := zad rZ
    obtain ⟨f0, f1, f2⟩ := zax rZ
    clear hvS hBw rS rZ hK
    go_wp2_with fail
    have hne : D ≠ w.heap.size := by omega
    have hK4 := (heap_put3 W w.heap.size (.bool sg) (.slice A1 (lim (sumP (xs.map Pair.qs)).num.natAbs).length cA1) (.slice B1 (lim (sumP (xs.map Pair.qs)).den).length cB1) hne).trans HK.out
    have hrow := (Row.put3 RZ3.out (.bool sg) (.slice A1 (lim (sumP (xs.map Pair.qs)).num.natAbs).length cA1) (.slice B1 (lim (sumP (xs.map Pair.qs)).den).length cB1)).putD (o' := .deferred none) hK4 rfl
    refine ⟨by simp, .inl ⟨_, _, rfl, run_takeDeferred hK4, ?_⟩⟩
    refine ⟨.agg #[.bool sg, .slice A1 (lim (sumP (xs.map Pair.qs)).num.natAbs).length cA1, .slice B1 (lim (sumP (xs.map Pair.qs)).den).length cB1], results_rat rfl rfl hrow, ⟨_, rfl, ?_⟩, ?_⟩
    · rw [Hq.out]
      refine putD_stb (IsQ.stb.to HvS.out (zbw fun x hx => ⟨by have := hx.1; omega, ?_⟩)) hK4 rfl
      have h1 := hx.1
      refine ⟨by omega, ?_⟩
      rw [World.putObj_size, zcb]
      exact h1.2
    · exact (zbn HBw.out (Nat.le_refl _) _ _ _).trans (belowK_b (w := w) (Nat.le_refl _) _ D _ _ (by omega) hK4 rfl rfl)
  case stop =>
    rintro D c pre W _ _ h _
    exact h.elim
end Go.Proofs.YtblpaocignlpkaaGreatDoor
namespace Go.Proofs.YtblpaocignlpkaaGreatDoor
open Go.RowKit
set_option linter.unusedVariables false
def sufB (A : List (List Rat)) (C y : List Rat) : Bool := (List.range C.length).all (fun k => decide (C.getD k 0 ≤ dotQ (colQ A k) y)) && !zda (rawV y)
theorem all_range_of {n : Nat} {f : Nat → Bool} (h : ∀ k, k < n → f k = true) : (List.range n).all f = true := List.all_eq_true.2 fun k hk => h k (List.mem_range.1 hk)
theorem all_range_not {n k : Nat} {f : Nat → Bool} (hk : k < n) (h : f k = false) : (List.range n).all f = false := by
  cases hx : (List.range n).all f with
  | false => rfl
  | true => have := List.all_eq_true.1 hx k (List.mem_range.2 hk); rw [h] at this; cases this
theorem colQ_sz {A : List (List Rat)} {k n : Nat} (h : ∀ row ∈ A, ∀ q ∈ row, Sz q n) (hn : 1 ≤ n) : ∀ q ∈ colQ A k, Sz q n := by
  intro q hq
  obtain ⟨row, hrow, rfl⟩ := List.mem_map.1 hq
  cases hx : row[k]? with
  | none => rw [List.getD_eq_getElem?_getD, hx]; exact Sz.zero.le hn
  | some q => rw [List.getD_eq_getElem?_getD, hx]; exact h row hrow q (List.mem_of_getElem? hx)
theorem colQ_len (A : List (List Rat)) (k : Nat) : (colQ A k).length = A.length := List.length_map _
theorem zay (l : List Rat) : (rawV l).length = l.length := List.length_map _
theorem zek (m : List (List Rat)) : (rawM m).length = m.length := List.length_map _
theorem sumP_any {n : Nat} {l : List (Rat × Rat)} (hl : l.length ≤ 40) (h : ∀ p ∈ l, Sz p.1 1024 ∧ Sz p.2 1024) : Sz (sumP l) 100000 := (sumP_sz h).le (by have := Nat.mul_le_mul_right (2 * 1024 + 1) hl; omega)
theorem zel {a b : List Rat} (ha : ∀ q ∈ a, Sz q 1024) (hb : ∀ q ∈ b, Sz q 1024) (hl : a.length ≤ 40) : Sz (dotQ a b) 100000 := by
  refine sumP_any (n := 1024) (by rw [List.length_zip]; omega) fun p hp => ?_
  exact ⟨ha _ (List.of_mem_zip hp).1, hb _ (List.of_mem_zip hp).2⟩
set_option maxRecDepth 100000 in
set_option maxHeartbeats 4000000 in
theorem suffices_l {w : World} {vp vy : Value} {p : ProgQ} {y : List Rat} (hp : IsP w (Old w) vp (rawP p)) (hy : IsV w (Old w) vy (rawV y)) (hB : Bru w) (hg : Good p 1024) (hl : y.length = p.B.length) (hsy : ∀ q ∈ y, Sz q 1024) :
    Calls Tryz.prog 114 #[vp, vy] w fun e w' => e = .returned (.bool (sufB p.A p.C y)) ∧ Below w.heap.size w w' := by
  obtain ⟨A, cA, B, cB, C, cC, rfl, hA, hBv, hC⟩ := hp
  obtain ⟨D, cD, rfl, _⟩ := zau hy
  simp only [rawP, zay, zek] at hA hBv hC hy ⊢
  have HG := Lib.hid hg
  have Hl := Lib.hid hl
  have Hsy := Lib.hid hsy
  have HB := Lib.hid hB
  have HA := Lib.hid hA
  have HC := Lib.hid hC
  have HY := Lib.hid hy
  obtain ⟨n, hn⟩ : ∃ n, n = p.C.length := ⟨_, rfl⟩
  have Hn := Lib.hid hn
  have Hn40 : n ≤ 40 := by rw [hn]; exact hg.nC
  rw [← hn] at hC ⊢
  clear hA hBv hC hy hB hg hl hsy hn
  rw [← Hn.out] at HC
  obtain ⟨w0, hw0, hb0, rP, Hz⟩ := zbm w #[.slice A p.A.length cA, .slice B p.B.length cB, .slice C n cC] 84
  have RP := Lib.hid rP
  have HB0 := Lib.hid hb0
  obtain ⟨cP0, cP1, cP2⟩ := zad rP
  clear rP hb0
  go_enter Tryz.func114, Tryz.ntmps114
  go_wp2_with fail
  clear hw0 cP0 cP1 cP2
  go_loopw [11] (fun i wr => ∃ k : Nat, k ≤ n ∧ i = .int .i64 (k : Int) ∧ Below w.heap.size w wr ∧ Row wr w.heap.size 84 [.slice A p.A.length cA, .slice B p.B.length cB, .slice C n cC] ∧ Hid (∀ j, j < k → decide (p.C.getD j 0 ≤ dotQ (colQ p.A j) y) = true)) (fun i _ => n - (intOf i).toNat)
  case atStart => exact ⟨0, Nat.zero_le _, rfl, HB0.out, RP.out, fun j hj => by omega⟩
  case round =>
    obtain ⟨k, hk, rfl, hbw, hrp, hrel⟩ := hrel
    have Hrel := Lib.hid hrel.out
    clear hrel
    rcases Nat.lt_or_ge k n with hlt | hge
    · obtain ⟨c, hc, hcr⟩ := zfl (l := p.C) (j := k) (by rw [← Hn.out]; exact hlt)
      obtain ⟨b, off, P, kP, Q, kQ, rfl, hSb, hel, c0, c1, c2⟩ := zdi (IsV.stb.to HC.out (zag hbw)) hcr
      have cr := zcm
      obtain ⟨s, hs⟩ : ∃ s, s = (raw c).neg := ⟨_, rfl⟩
      obtain ⟨x1, hx1⟩ : ∃ s, s = (raw c).num.length := ⟨_, rfl⟩
      obtain ⟨x2, hx2⟩ : ∃ s, s = (raw c).den.length := ⟨_, rfl⟩
      rw [← hs] at c0
      rw [← hx1] at c1
      rw [← hx2] at c2
      rw [← hs, ← hx1, ← hx2] at hel
      have Hel := Lib.hid hel
      have Hcc := Lib.hid hc
      have Hsc : Hid (Sz c 100000) := (HG.out.szC c (List.mem_of_getElem? hc)).le (by omega)
      obtain ⟨d, hd⟩ : ∃ d, d = dotQ (colQ p.A k) y := ⟨_, rfl⟩
      have Hd := Lib.hid hd
      have Hsd : Hid (Sz d 100000) := by rw [Hid, hd]; exact zel (colQ_sz HG.out.szA (by omega)) Hsy.out (by rw [colQ_len, HG.out.rows]; exact HG.out.nB)
      clear hel hc hcr hs hx1 hx2 hd
      obtain ⟨wb, hwb, hbb, rC, Hzb⟩ := zbm wr #[.bool s, .slice P x1 kP, .slice Q x2 kQ] 31
      have hbn := zaa hbw hbb
      have A_0 := Lib.hid (IsM.stb.to HA.out (zag hbn))
      have Y_0 := Lib.hid (IsV.stb.to HY.out (zag hbn))
      have E_0 := Lib.hid (IsQ.stb.next (isR_isQ Hel.out) hbb)
      have RP_0 := Lib.hid (hrp.next hbb)
      have RC_0 := Lib.hid (rC)
      have bw_0 := Lib.hid (hbn)
      have B_0 := Lib.hid (Bru.next HB.out hbn)
      have gne : wr.heap.size ≠ w.heap.size := by have := hrp.lt; omega
      obtain ⟨cP0, cP1, cP2⟩ := zad hrp
      clear hbw hrp hbb hbn rC
      rcases Decidable.em (d < c) with hdc | hdc
      · obtain ⟨o, ho⟩ : ∃ o, o = cmpQ d c := ⟨_, rfl⟩
        have e0 : o < 0 := by rw [ho, cmpQ_lt hdc]; omega
        have Hfin : Hid (sufB p.A p.C y = false) := by rw [Hid, sufB, all_range_not (k := k) (by rw [← Hn.out]; exact hlt) (decide_eq_false (by rw [List.getD_eq_getElem?_getD, Hcc.out, ← Hd.out]; exact Rat.not_le.2 hdc))]; rfl
        have Ho := Lib.hid ho
        clear ho hdc
        go_wp2_with fail
        clear hwb cP0 cP1 cP2 c0 c1 c2
        obtain ⟨cRP0_1, cRP1_1, cRP2_1⟩ := zad RP_0.out
        obtain ⟨cRC0_2, cRC1_2, cRC2_2⟩ := zad RC_0.out
        have A_1 := Lib.hid (IsM.stb.next A_0.out (zac _))
        have Y_1 := Lib.hid (IsV.stb.next Y_0.out (zac _))
        have E_1 := Lib.hid (IsQ.stb.next E_0.out (zac _))
        have RP_1 := Lib.hid (Row.next RP_0.out (zac _))
        have RC_1 := Lib.hid (Row.next RC_0.out (zac _))
        have bw_1 := Lib.hid (zaa bw_0.out (zac _))
        have B_1 := Lib.hid (Bru.next B_0.out (zac _))
        clear A_0 Y_0 E_0 RP_0 RC_0 bw_0 B_0
        go_region_held3 (fun w' => w'.cell? ⟨w.heap.size, 0, none⟩ = some (.slice A p.A.length cA) ∧ w'.cell? ⟨wr.heap.size, 0, none⟩ = some (.bool s) ∧ w'.cell? ⟨wr.heap.size, 1, none⟩ = some (.slice P x1 kP) ∧ w'.cell? ⟨wr.heap.size, 2, none⟩ = some (.slice Q x2 kQ))
          (first
            | exact ⟨cRP0_1, cRC0_2, cRC1_2, cRC2_2⟩
            | exact ⟨cRP0_3, cRC0_4, cRC1_4, cRC2_4⟩
            | exact ⟨cRP0_5, cRC0_6, cRC1_6, cRC2_6⟩
            | exact ⟨cRP0_7, cRC0_8, cRC1_8, cRC2_8⟩)
          (first
            | (go_at_call 66; have hc := column_l (n := n) A_1.out (by rw [HG.out.rows]; exact Nat.le_trans HG.out.nB (by omega)) (fun row hr => (HG.out.cols row hr).trans Hn.out.symm) hlt (by omega); (with_reducible refine hc.mono ?_); clear hc; rintro e w3 ⟨⟨v3, rfl, hv3⟩, hb⟩; have newK := Lib.hid (hv3); have A_2 := Lib.hid (IsM.stb.next A_1.out (hb)); have Y_2 := Lib.hid (IsV.stb.next Y_1.out (hb)); have E_2 := Lib.hid (IsQ.stb.next E_1.out (hb)); have RP_2 := Lib.hid (Row.next RP_1.out (hb)); have RC_2 := Lib.hid (Row.next RC_1.out (hb)); have bw_2 := Lib.hid (zaa bw_1.out (hb)); have B_2 := Lib.hid (Bru.next B_1.out (hb)); clear A_1 Y_1 E_1 RP_1 RC_1 bw_1 B_1; have K_0 := newK; clear newK; obtain ⟨P3, k3, rfl, _⟩ := zau hv3; clear cRP0_1 cRP1_1 cRP2_1 cRC0_2 cRC1_2 cRC2_2; obtain ⟨cRP0_3, cRP1_3, cRP2_3⟩ := zad RP_2.out; obtain ⟨cRC0_4, cRC1_4, cRC2_4⟩ := zad RC_2.out)
            | (go_at_call 58; have hc := (show Calls _ _ _ _ (RetQ _ d) from by rw [Hd.out]; exact dot_q (M := p.B.length) K_0.out Y_2.out B_2.out (by rw [colQ_len]; exact HG.out.rows) Hl.out HG.out.nB (colQ_sz HG.out.szA (by omega)) Hsy.out); (with_reducible refine hc.mono ?_); clear hc; rintro e w4 ⟨⟨v4, rfl, hv4⟩, hb⟩; have newD := Lib.hid (IsQ.stb.old hv4); have A_3 := Lib.hid (IsM.stb.next A_2.out (hb)); have Y_3 := Lib.hid (IsV.stb.next Y_2.out (hb)); have E_3 := Lib.hid (IsQ.stb.next E_2.out (hb)); have RP_3 := Lib.hid (Row.next RP_2.out (hb)); have RC_3 := Lib.hid (Row.next RC_2.out (hb)); have bw_3 := Lib.hid (zaa bw_2.out (hb)); have B_3 := Lib.hid (Bru.next B_2.out (hb)); have K_1 := Lib.hid (IsV.stb.next K_0.out (hb)); clear A_2 Y_2 E_2 RP_2 RC_2 bw_2 B_2 K_0; have D_0 := newD; clear newD; obtain ⟨s4, P4, k4, O4, l4, rfl, _, _, _⟩ := zan hv4; clear cRP0_3 cRP1_3 cRP2_3 cRC0_4 cRC1_4 cRC2_4; obtain ⟨cRP0_5, cRP1_5, cRP2_5⟩ := zad RP_3.out; obtain ⟨cRC0_6, cRC1_6, cRC2_6⟩ := zad RC_3.out)
            | (go_at_call 65; have hc := order_q D_0.out E_3.out Hsd.out Hsc.out; (with_reducible refine hc.mono ?_); clear hc; rintro e w5 ⟨he, hb⟩; have A_4 := Lib.hid (IsM.stb.next A_3.out (hb)); have Y_4 := Lib.hid (IsV.stb.next Y_3.out (hb)); have E_4 := Lib.hid (IsQ.stb.next E_3.out (hb)); have RP_4 := Lib.hid (Row.next RP_3.out (hb)); have RC_4 := Lib.hid (Row.next RC_3.out (hb)); have bw_4 := Lib.hid (zaa bw_3.out (hb)); have B_4 := Lib.hid (Bru.next B_3.out (hb)); have K_2 := Lib.hid (IsV.stb.next K_1.out (hb)); have D_1 := Lib.hid (IsQ.stb.next D_0.out (hb)); clear A_3 Y_3 E_3 RP_3 RC_3 bw_3 B_3 K_1 D_0; rw [← Ho.out] at he; subst he; clear cRP0_5 cRP1_5 cRP2_5 cRC0_6 cRC1_6 cRC2_6; obtain ⟨cRP0_7, cRP1_7, cRP2_7⟩ := zad RP_4.out; obtain ⟨cRC0_8, cRC1_8, cRC2_8⟩ := zad RC_4.out))
        go_wp2_with fail
        go_ret
        exact ⟨zdd Hfin.out.symm, bw_4.out⟩
      · obtain ⟨o, ho⟩ : ∃ o, o = cmpQ d c := ⟨_, rfl⟩
        have e0 : ¬ o < 0 := by rw [ho]; unfold cmpQ; rw [if_neg hdc]; split <;> omega
        have Hnew : Hid (decide (p.C.getD k 0 ≤ dotQ (colQ p.A k) y) = true) := decide_eq_true (by rw [List.getD_eq_getElem?_getD, Hcc.out, ← Hd.out]; exact Rat.not_lt.1 hdc)
        have Ho := Lib.hid ho
        clear ho hdc
        go_wp2_with fail
        clear hwb cP0 cP1 cP2 c0 c1 c2
        obtain ⟨cRP0_1, cRP1_1, cRP2_1⟩ := zad RP_0.out
        obtain ⟨cRC0_2, cRC1_2, cRC2_2⟩ := zad RC_0.out
        have A_1 := Lib.hid (IsM.stb.next A_0.out (zac _))
        have Y_1 := Lib.hid (IsV.stb.next Y_0.out (zac _))
        have E_1 := Lib.hid (IsQ.stb.next E_0.out (zac _))
        have RP_1 := Lib.hid (Row.next RP_0.out (zac _))
        have RC_1 := Lib.hid (Row.next RC_0.out (zac _))
        have bw_1 := Lib.hid (zaa bw_0.out (zac _))
        have B_1 := Lib.hid (Bru.next B_0.out (zac _))
        clear A_0 Y_0 E_0 RP_0 RC_0 bw_0 B_0
        go_region_held3 (fun w' => w'.cell? ⟨w.heap.size, 0, none⟩ = some (.slice A p.A.length cA) ∧ w'.cell? ⟨wr.heap.size, 0, none⟩ = some (.bool s) ∧ w'.cell? ⟨wr.heap.size, 1, none⟩ = some (.slice P x1 kP) ∧ w'.cell? ⟨wr.heap.size, 2, none⟩ = some (.slice Q x2 kQ))
          (first
            | exact ⟨cRP0_1, cRC0_2, cRC1_2, cRC2_2⟩
            | exact ⟨cRP0_3, cRC0_4, cRC1_4, cRC2_4⟩
            | exact ⟨cRP0_5, cRC0_6, cRC1_6, cRC2_6⟩
            | exact ⟨cRP0_7, cRC0_8, cRC1_8, cRC2_8⟩)
          (first
            | (go_at_call 66; have hc := column_l (n := n) A_1.out (by rw [HG.out.rows]; exact Nat.le_trans HG.out.nB (by omega)) (fun row hr => (HG.out.cols row hr).trans Hn.out.symm) hlt (by omega); (with_reducible refine hc.mono ?_); clear hc; rintro e w3 ⟨⟨v3, rfl, hv3⟩, hb⟩; have newK := Lib.hid (hv3); have A_2 := Lib.hid (IsM.stb.next A_1.out (hb)); have Y_2 := Lib.hid (IsV.stb.next Y_1.out (hb)); have E_2 := Lib.hid (IsQ.stb.next E_1.out (hb)); have RP_2 := Lib.hid (Row.next RP_1.out (hb)); have RC_2 := Lib.hid (Row.next RC_1.out (hb)); have bw_2 := Lib.hid (zaa bw_1.out (hb)); have B_2 := Lib.hid (Bru.next B_1.out (hb)); clear A_1 Y_1 E_1 RP_1 RC_1 bw_1 B_1; have K_0 := newK; clear newK; obtain ⟨P3, k3, rfl, _⟩ := zau hv3; clear cRP0_1 cRP1_1 cRP2_1 cRC0_2 cRC1_2 cRC2_2; obtain ⟨cRP0_3, cRP1_3, cRP2_3⟩ := zad RP_2.out; obtain ⟨cRC0_4, cRC1_4, cRC2_4⟩ := zad RC_2.out)
            | (go_at_call 58; have hc := (show Calls _ _ _ _ (RetQ _ d) from by rw [Hd.out]; exact dot_q (M := p.B.length) K_0.out Y_2.out B_2.out (by rw [colQ_len]; exact HG.out.rows) Hl.out HG.out.nB (colQ_sz HG.out.szA (by omega)) Hsy.out); (with_reducible refine hc.mono ?_); clear hc; rintro e w4 ⟨⟨v4, rfl, hv4⟩, hb⟩; have newD := Lib.hid (IsQ.stb.old hv4); have A_3 := Lib.hid (IsM.stb.next A_2.out (hb)); have Y_3 := Lib.hid (IsV.stb.next Y_2.out (hb)); have E_3 := Lib.hid (IsQ.stb.next E_2.out (hb)); have RP_3 := Lib.hid (Row.next RP_2.out (hb)); have RC_3 := Lib.hid (Row.next RC_2.out (hb)); have bw_3 := Lib.hid (zaa bw_2.out (hb)); have B_3 := Lib.hid (Bru.next B_2.out (hb)); have K_1 := Lib.hid (IsV.stb.next K_0.out (hb)); clear A_2 Y_2 E_2 RP_2 RC_2 bw_2 B_2 K_0; have D_0 := newD; clear newD; obtain ⟨s4, P4, k4, O4, l4, rfl, _, _, _⟩ := zan hv4; clear cRP0_3 cRP1_3 cRP2_3 cRC0_4 cRC1_4 cRC2_4; obtain ⟨cRP0_5, cRP1_5, cRP2_5⟩ := zad RP_3.out; obtain ⟨cRC0_6, cRC1_6, cRC2_6⟩ := zad RC_3.out)
            | (go_at_call 65; have hc := order_q D_0.out E_3.out Hsd.out Hsc.out; (with_reducible refine hc.mono ?_); clear hc; rintro e w5 ⟨he, hb⟩; have A_4 := Lib.hid (IsM.stb.next A_3.out (hb)); have Y_4 := Lib.hid (IsV.stb.next Y_3.out (hb)); have E_4 := Lib.hid (IsQ.stb.next E_3.out (hb)); have RP_4 := Lib.hid (Row.next RP_3.out (hb)); have RC_4 := Lib.hid (Row.next RC_3.out (hb)); have bw_4 := Lib.hid (zaa bw_3.out (hb)); have B_4 := Lib.hid (Bru.next B_3.out (hb)); have K_2 := Lib.hid (IsV.stb.next K_1.out (hb)); have D_1 := Lib.hid (IsQ.stb.next D_0.out (hb)); clear A_3 Y_3 E_3 RP_3 RC_3 bw_3 B_3 K_1 D_0; rw [← Ho.out] at he; subst he; clear cRP0_5 cRP1_5 cRP2_5 cRC0_6 cRC1_6 cRC2_6; obtain ⟨cRP0_7, cRP1_7, cRP2_7⟩ := zad RP_4.out; obtain ⟨cRC0_8, cRC1_8, cRC2_8⟩ := zad RC_4.out))
        go_wp2_with fail
        go_roundw
        case rel =>
          refine ⟨k + 1, by omega, by go_num, bw_4.out, RP_4.out, fun j hj => ?_⟩
          rcases Nat.lt_or_ge j k with h | h
          · exact Hrel.out j h
          · obtain rfl : j = k := by omega
            exact Hnew.out
        case measure => simp [intOf]; omega
    · obtain rfl : k = n := by omega
      have Hfin : Hid (sufB p.A p.C y = !zda (rawV y)) := by rw [Hid, sufB, all_range_of (by rw [← Hn.out]; exact Hrel.out)]; rfl
      have HYk := Lib.hid (IsV.stb.to HY.out (zag hbw))
      have Hbw := Lib.hid hbw
      clear hbw hrp
      go_wp2_with fail
      refine (negative_l HYk.out).mono ?_
      rintro e w3 ⟨rfl, hb⟩
      obtain ⟨bn, hbn⟩ : ∃ bn, bn = zda (rawV y) := ⟨_, rfl⟩
      rw [← hbn]
      have Hbn := Lib.hid hbn
      clear hbn
      go_wp2_with fail
      go_ret
      exact ⟨zdd (by rw [Hfin.out, Hbn.out]), zaa Hbw.out hb⟩
end Go.Proofs.YtblpaocignlpkaaGreatDoor
namespace Go.Proofs.YtblpaocignlpkaaGreatDoor
open Go.RowKit Go.Shelf
attribute [local go_sem] Oper.semAt_some
set_option linter.unusedVariables false
def zeg (A : List (List Rat)) (B x : List Rat) : Bool := (A.zip B).all (fun p => decide (dotQ p.1 x ≤ p.2)) && !zda (rawV x)
def SideOk (w : World) (n : Nat) (p : (S3 × List Rat) × (Q3 × Rat)) : Prop := IsV w (Old w) (.slice p.1.1.1 p.1.1.2.1 p.1.1.2.2) (rawV p.1.2) ∧ p.1.2.length = n ∧ IsQ w (Old w) (q3 p.2.1) p.2.2 ∧ (∀ q ∈ p.1.2, Sz q 1024) ∧ Sz p.2.2 1024
abbrev Side (w : World) (n : Nat) := {p : (S3 × List Rat) × (Q3 × Rat) // SideOk w n p}
def Side.qs {w : World} {n : Nat} (x : Side w n) : List Rat × Rat := (x.1.1.2, x.1.2.2)
def sl3 (x : S3) : Value := .slice x.1 x.2.1 x.2.2
theorem exists_sl3 {es : List Value} : (∀ (j : Nat) (e : Value), es[j]? = some e → ∃ x, e = sl3 x) → ∃ l : List S3, l.map sl3 = es := by
  induction es with
  | nil => exact fun _ => ⟨[], rfl⟩
  | cons e es ih =>
    intro h
    obtain ⟨x, rfl⟩ := h 0 e rfl
    obtain ⟨l, rfl⟩ := ih fun j e he => h (j + 1) e he
    exact ⟨x :: l, rfl⟩
theorem exists_sides {w : World} {es : List Value} {eb : List Q3} {A : List (List Rat)} {B : List Rat} {M n : Nat} (ha : All2 (IsV w (Old w)) es (rawM A)) (hb : All2 (fun x r => IsR w (Old w) (q3 x) r) eb (rawV B)) (la : A.length = M) (lb : B.length = M)
    (hn : ∀ row ∈ A, row.length = n) (sa : ∀ row ∈ A, ∀ q ∈ row, Sz q 1024) (sb : ∀ q ∈ B, Sz q 1024) : ∃ z : List (Side w n), z.length = M ∧ z.map (fun x => sl3 x.1.1.1) = es ∧ z.map (fun x => x.1.2.1) = eb ∧ z.map Side.qs = A.zip B := by
  have lea : es.length = M := by rw [ha.1]; simpa [rawM] using la
  have leb : eb.length = M := by rw [hb.1]; simpa [rawV] using lb
  obtain ⟨ea, rfl⟩ := exists_sl3 (es := es) (fun j e he => by
    have hj : j < (rawM A).length := by rw [← ha.1]; exact (List.getElem?_eq_some_iff.1 he).1
    obtain ⟨P, k, es', rfl, _⟩ := ha.2 j e _ he (List.getElem?_eq_getElem hj)
    exact ⟨(_, _, _), rfl⟩)
  rw [List.length_map] at lea
  obtain ⟨z, hz⟩ := exists_val (P := SideOk w n) (l := (ea.zip A).zip (eb.zip B)) (by
    intro x hx
    obtain ⟨j, hj⟩ := List.getElem?_of_mem hx
    rw [List.getElem?_zip_eq_some, List.getElem?_zip_eq_some, List.getElem?_zip_eq_some] at hj
    obtain ⟨⟨h1, h2⟩, h3, h4⟩ := hj
    refine ⟨ha.2 j (sl3 x.1.1) _ (by rw [List.getElem?_map, h1]; rfl) ?_, hn _ (List.mem_of_getElem? h2), hb.2 j _ _ h3 ?_, sa _ (List.mem_of_getElem? h2), sb _ (List.mem_of_getElem? h4)⟩
    · rw [rawM, List.getElem?_map, h2]; rfl
    · rw [rawV, List.getElem?_map, h4]; rfl)
  have l1 : (ea.zip A).map Prod.fst = ea := List.map_fst_zip (by omega)
  have l2 : (ea.zip A).map Prod.snd = A := List.map_snd_zip (by omega)
  have l3 : (eb.zip B).map Prod.fst = eb := List.map_fst_zip (by omega)
  have l4 : (eb.zip B).map Prod.snd = B := List.map_snd_zip (by omega)
  have m1 : ((ea.zip A).zip (eb.zip B)).map Prod.fst = ea.zip A := List.map_fst_zip (by rw [List.length_zip, List.length_zip]; omega)
  have m2 : ((ea.zip A).zip (eb.zip B)).map Prod.snd = eb.zip B := List.map_snd_zip (by rw [List.length_zip, List.length_zip]; omega)
  refine ⟨z, ?_, ?_, ?_, ?_⟩
  · rw [← List.length_map (f := Subtype.val), hz, List.length_zip, List.length_zip, List.length_zip]; omega
  · have : z.map (fun x => sl3 x.1.1.1) = ((z.map Subtype.val).map (fun p => p.1.1)).map sl3 := by rw [List.map_map, List.map_map]; rfl
    rw [this, hz]
    have h2 : ((ea.zip A).zip (eb.zip B)).map (fun p => p.1.1) = (((ea.zip A).zip (eb.zip B)).map Prod.fst).map Prod.fst := by rw [List.map_map]; rfl
    rw [h2, m1, l1]
  · rw [← l3, ← m2, ← hz, List.map_map, List.map_map]; rfl
  · have : z.map Side.qs = (z.map Subtype.val).map (fun p => (p.1.2, p.2.2)) := by rw [List.map_map]; rfl
    have hzm := List.zip_map (f := (Prod.snd : S3 × List Rat → List Rat)) (g := (Prod.snd : Q3 × Rat → Rat)) (l₁ := ea.zip A) (l₂ := eb.zip B)
    rw [l2, l4] at hzm
    rw [this, hz, hzm]
    rfl
theorem cmpQ_not_gt {p q : Rat} (h : ¬ q < p) : ¬ cmpQ p q > 0 := by
  rcases Decidable.em (p < q) with h1 | h1
  · rw [cmpQ_lt h1]; omega
  · rw [cmpQ_eq (Rat.le_antisymm (Rat.not_lt.1 h) (Rat.not_lt.1 h1))]; omega
def keeps {w : World} {n : Nat} (x : List Rat) (s : Side w n) : Bool := decide (dotQ s.qs.1 x ≤ s.qs.2)
theorem feasB_sides {w : World} {n : Nat} {z : List (Side w n)} {A : List (List Rat)} {B x : List Rat} (h : z.map Side.qs = A.zip B) : zeg A B x = (z.all (keeps x) && !zda (rawV x)) := by
  unfold zeg
  rw [← h, List.all_map]
  rfl
def SideAx (n : Nat) (T : Nat → S3 → Q3 → Array Value) {w : World} {m : Nat} (x : Side w m) (a : Act) (W : World) : Prop :=
  ∃ gx, a = { tmps := T gx x.1.1.1 x.1.2.1, defers := [] } ∧ n ≤ gx ∧ Row W gx 31 (q3c x.1.2.1)
theorem sideAx_own (n m : Nat) (T : Nat → S3 → Q3 → Array Value) {w : World} {k : Nat} (x : Side w k) (a : Act) : OwnFrom m (fun (_ : Unit) W => SideAx n T x a W) := by
  rintro _ X Y row ⟨gx, h0, h1, h2⟩ hg hr
  exact ⟨gx, h0, h1, h2.others hg (fun r e => (hr r e).2)⟩
theorem pure_own {β : Type} (m : Nat) (p : β → Prop) : OwnFrom m (fun s (_ : World) => p s) := fun _ _ _ _ h _ _ => h
theorem results_cell {fn : Func} {slot : Tmp} {tmps : Array Value} {w : World} {g : Nat} {b : Bool} (hr : fn.results = #[.cell slot 4]) (ha : tmps.getD slot undef = .pointer (some ⟨g, 0, none⟩))
    (h : Row w g 4 [.bool b]) : (results fn tmps).run Tryz.prog w = .ok (.bool b) w := by
  have h0 := zdy h
  have ha' : tmps[slot]?.getD undef = .pointer (some ⟨g, 0, none⟩) := by simpa using ha
  simp [results, hr, ha', asAddr, go_sem, h0]
set_option maxRecDepth 100000 in
set_option maxHeartbeats 4000000 in
theorem zef {w : World} {vp vx : Value} {p : ProgQ} {x : List Rat} (hp : IsP w (Old w) vp (rawP p)) (hx : IsV w (Old w) vx (rawV x)) (hB : Bru w) (hg : Good p 1024) (hl : x.length = p.C.length) (hsx : ∀ q ∈ x, Sz q 1024) :
    Calls Tryz.prog 75 #[vp, vx] w fun e w' => e = .returned (.bool (zeg p.A p.B x)) ∧ Below w.heap.size w w' := by
  obtain ⟨A, cA, B, cB, C, cC, rfl, hA, hBv, hC⟩ := hp
  obtain ⟨D, cD, rfl, _⟩ := zau hx
  simp only [rawP, zay, zek] at hA hBv hC hx ⊢
  obtain ⟨ea, hea, hea2, hea3⟩ := isM_els hA
  obtain ⟨eb, heb, heb2, heb3⟩ := isV_els hBv
  obtain ⟨M, hM⟩ : ∃ M, M = p.B.length := ⟨_, rfl⟩
  have hMA : p.A.length = M := by rw [hM, hg.rows]
  rw [hMA, ← hM]
  obtain ⟨z, hz, rfl, rfl, hz3⟩ := exists_sides hea3 heb3 hMA hM.symm hg.cols hg.szA hg.szB
  have Hea := Lib.hid hea
  have Heb := Lib.hid heb
  have Hzl := Lib.hid hz
  have HB := Lib.hid hB
  have HX := Lib.hid hx
  have HG := Lib.hid hg
  have Hl := Lib.hid hl
  have Hsx := Lib.hid hsx
  have Hf : Hid (zeg p.A p.B x = (z.all (keeps x) && !zda (rawV x))) := feasB_sides hz3
  have hM40 : M ≤ 40 := by rw [hM]; exact hg.nB
  clear hea hea2 hea3 heb heb2 heb3 hA hBv hC hx hB hg hl hsx hz hz3 hMA hM
  obtain ⟨w0, hw0, hb0, rP, rX, rZ, Hz⟩ := zem w #[.slice A M cA, .slice B M cB, .slice C p.C.length cC] #[.slice D x.length cD] #[.bool false] 84 25 4
  have RX := Lib.hid rX
  have RZ := Lib.hid rZ
  have HB0 := Lib.hid hb0
  obtain ⟨cP0, cP1, cP2⟩ := zad rP
  clear rP rX rZ hb0
  refine (callsIn_wide (n := 3)).1 ?_
  refine callsIn_of_wp_marks Tryz.func75 rfl trivial ?_ rfl
  simp only [Tryz.ntmps75, List.size_toArray, List.length_cons, List.length_nil, Nat.reduceAdd, Nat.reduceSub, Array.replicate_succ, Array.replicate_zero, List.push_toArray, List.append_toArray, List.nil_append, List.cons_append]
  refine wpIn_wide.2 ?_
  go_wp2_with fail
  clear hw0 cP0 cP1 cP2
  refine (zipv_n _ _ _ _ _ _ _).mono ?_
  rintro e w2 ⟨rfl, hb2, bA, bB, hz2⟩
  have HBn := Lib.hid (zaa HB0.out hb2)
  have RX2 := Lib.hid (RX.out.next hb2)
  have RZ2 := Lib.hid (RZ.out.next hb2)
  have HAB := Lib.hid (And.intro bA bB)
  have Hz2 := Lib.hid hz2
  clear hb2 bA bB
  go_wp2_with fail
  have hn0 : w.heap.size ≤ w2.heap.size := HBn.out.size
  have hnn2 : w0.heap.size + 2 ≤ w2.heap.size := by omega
  refine (wpIn_wide (n := 3)).1 ?_
  refine wpIn_rangeFunc_ownH rfl (by omega) (gf := 151) (lb := #[.pointer (some ⟨w0.heap.size, 0, none⟩), .pointer (some ⟨w0.heap.size + 1, 0, none⟩)]) rfl trivial (enters_of Tryz.func151 (by kernel_rfl) rfl)
    (zipv_seq (fun x => sl3 x.1.1.1) (fun x => x.1.2.1) z 2 (by omega) w.heap.size w0.heap.size A B cA cB M Hzl.out (by omega) w2 (by omega) HAB.out.1 HAB.out.2 (Hea.out.below HBn.out (Nat.le_refl _)) (Heb.out.below HBn.out (Nat.le_refl _)) hn0)
    kpzv_t (kpzv_b hn0) (Below.refl _ _) (fun _ => rfl)
    (fun pre W => Below w.heap.size w W ∧ Row W (w.heap.size + 1) 25 [.slice D x.length cD] ∧ Row W (w.heap.size + 1 + 1) 4 [.bool false] ∧ w2.heap.size ≤ W.heap.size ∧ pre.all (keeps x) = true)
    (fun c pre W => Below w.heap.size w W ∧ Row W (w.heap.size + 1 + 1) 4 [.bool false] ∧ c = .ret ∧ pre.all (keeps x) = false)
    (OwnFrom.and (ownFrom_below (Nat.le_refl _) hn0) (OwnFrom.and (rowZ_own _ _) (OwnFrom.and (rowZ_own _ _) (OwnFrom.and (sizeZ_own _ _) (pure_own _ _)))))
    (fun c => OwnFrom.and (ownFrom_below (Nat.le_refl _) hn0) (OwnFrom.and (rowZ_own _ _) (OwnFrom.and (pure_own _ (fun _ => c = .ret)) (pure_own _ _))))
    ⟨HBn.out, RX2.out, RZ2.out, Nat.le_refl _, rfl⟩
    (SideAx w2.heap.size (fun gx r y => #[.agg #[.slice A M cA, .slice B M cB, .slice C p.C.length cC], .slice D x.length cD, .pointer (some ⟨w.heap.size, 0, none⟩), .pointer (some ⟨w.heap.size + 1, 0, none⟩), .pointer (some ⟨w.heap.size + 1 + 1, 0, none⟩), sl3 r, .pointer (some ⟨gx, 0, none⟩),
      .pointer (some ⟨w.heap.size, 0, none⟩), .pointer (some ⟨w.heap.size, 0, none⟩), .slice A M cA, .pointer (some ⟨w.heap.size, 0, none⟩), .pointer (some ⟨w.heap.size, 1, none⟩), .slice B M cB,
      .func (.func 151) #[] #[.pointer (some ⟨w0.heap.size, 0, none⟩), .pointer (some ⟨w0.heap.size + 1, 0, none⟩)], sl3 r, q3 y, undef, undef, undef, undef, undef, undef, undef, undef, undef])) (fun _ _ => sideAx_own _ _ _ _ _) ?assign ?body ?done ?stop
  case assign =>
    rintro l pre ⟨⟨⟨⟨r1, r2, r3⟩, row⟩, ⟨⟨y0, ⟨y1, y2, y3⟩, ⟨y4, y5, y6⟩⟩, qy⟩⟩, hok⟩ W K ⟨hBw, rX, rZ, hnn, hall⟩ hK
    obtain ⟨W0, hW0, hbW, rY, hzW⟩ := zbm W #[.bool y0, .slice y1 y2 y3, .slice y4 y5 y6] 31
    have HY := Lib.hid rY
    have HbW := Lib.hid hbW
    have HBw := Lib.hid (And.intro hBw (And.intro rX rZ))
    have Hall := Lib.hid hall
    clear rY hbW hBw rX rZ hall
    dsimp only [q3, sl3]
    gi_wp2
    have hnW : w.heap.size ≤ W.heap.size := HBw.out.1.size
    have hsz := hzW.out
    exact hK _ _ ((zcu HbW.out).from _) (kpzv_of HbW.out hnW) ⟨zaa HBw.out.1 HbW.out, HBw.out.2.1.next HbW.out, HBw.out.2.2.next HbW.out, by omega, Hall.out⟩ ⟨_, rfl, hnn, HY.out⟩
  case body =>
    rintro l pre s a' W hlW hrec ⟨hBw, rX, rZ, hnn, hall⟩ ⟨gx, rfl, hgx, rY⟩ hlt
    have hmap : (pre ++ [s]).all (keeps x) = keeps x s := by rw [List.all_append, hall]; simp
    generalize pre ++ [s] = pre' at hmap ⊢
    obtain ⟨⟨⟨⟨r1, r2, r3⟩, row⟩, ⟨⟨y0, ⟨y1, y2, y3⟩, ⟨y4, y5, y6⟩⟩, qy⟩⟩, hok⟩ := s
    obtain ⟨d, hd⟩ : ∃ d, d = dotQ row x := ⟨_, rfl⟩
    have hkeep : pre'.all (keeps x) = decide (d ≤ qy) := by rw [hmap, hd]; rfl
    dsimp only [q3, q3c, sl3, SideOk] at rY hok ⊢
    have hlen : r2 = row.length := by
      obtain ⟨A', c', h1, _⟩ := zau hok.1
      rw [zay] at h1
      simp only [Value.slice.injEq] at h1
      exact h1.2.1
    subst hlen
    have Hkeep := Lib.hid hkeep
    have Hd := Lib.hid hd
    have Hrl := Lib.hid hok.2.1
    have Hsr := Lib.hid hok.2.2.2.1
    have Hsy : Hid (Sz qy 100000) := hok.2.2.2.2.le (by omega)
    have hrc : row.length = p.C.length := hok.2.1
    have Hsd : Hid (Sz d 100000) := by rw [Hid, hd]; exact zel hok.2.2.2.1 Hsx.out (by rw [hrc]; exact HG.out.nC)
    have hnW : w.heap.size ≤ W.heap.size := hBw.size
    have HBw := Lib.hid hBw
    have R_0 := Lib.hid (IsV.stb.to hok.1 (zag hBw))
    have X_0 := Lib.hid (IsV.stb.to HX.out (zag hBw))
    have Y_0 := Lib.hid (IsQ.stb.to hok.2.2.1 (zag hBw))
    have RX_0 := Lib.hid (rX)
    have RZ_0 := Lib.hid (rZ)
    have RY_0 := Lib.hid (rY)
    have B_0 := Lib.hid (Bru.next HB.out hBw)
    have bW_0 := Lib.hid (Below.refl W.heap.size W)
    clear rX rZ rY hok hBw hmap hkeep hd hall hrc
    rcases Decidable.em (qy < d) with hdc | hdc
    · obtain ⟨o, ho⟩ : ∃ o, o = cmpQ d qy := ⟨_, rfl⟩
      have e0 : o > 0 := by rw [ho, cmpQ_gt hdc]; omega
      have Hfin : Hid (pre'.all (keeps x) = false) := by rw [Hid, Hkeep.out]; exact decide_eq_false (Rat.not_le.2 hdc)
      have Ho := Lib.hid ho
      clear ho hdc
      have cRX0_1 := zdy RX_0.out
      have cRZ0_2 := zdy RZ_0.out
      have fRZ0_2 := RZ_0.out.frozen 0
      obtain ⟨cRY0_3, cRY1_3, cRY2_3⟩ := zad RY_0.out
      gi_wp2
      have hmo : Tryz.prog.follows .mixedOrders = true := by kernel_rfl
      have R_1 := Lib.hid (IsV.stb.next R_0.out (zac _))
      have X_1 := Lib.hid (IsV.stb.next X_0.out (zac _))
      have Y_1 := Lib.hid (IsQ.stb.next Y_0.out (zac _))
      have RX_1 := Lib.hid (Row.next RX_0.out (zac _))
      have RZ_1 := Lib.hid (Row.next RZ_0.out (zac _))
      have RY_1 := Lib.hid (Row.next RY_0.out (zac _))
      have B_1 := Lib.hid (Bru.next B_0.out (zac _))
      have bW_1 := Lib.hid (zaa bW_0.out (zac _))
      clear R_0 X_0 Y_0 RX_0 RZ_0 RY_0 B_0 bW_0
      clear cRX0_1 cRZ0_2 fRZ0_2 cRY0_3 cRY1_3 cRY2_3
      have cRX0_4 := zdy RX_1.out
      have cRZ0_5 := zdy RZ_1.out
      have fRZ0_5 := RZ_1.out.frozen 0
      obtain ⟨cRY0_6, cRY1_6, cRY2_6⟩ := zad RY_1.out
      gi_region_with_o (first
          | ((refine And.intro trivial ?_); gi_at_call 58; have hc := (show Calls _ _ _ _ (RetQ _ d) from by rw [Hd.out]; exact dot_q (M := p.C.length) R_1.out X_1.out B_1.out Hrl.out Hl.out HG.out.nC Hsr.out Hsx.out); (with_reducible refine CallsIn.inRound _ (callsIn_wide.2 (hc.mono ?_))); clear hc; rintro e w4 ⟨⟨v4, rfl, hv4⟩, hb⟩; have newD := Lib.hid (IsQ.stb.old hv4); have R_2 := Lib.hid (IsV.stb.next R_1.out (hb)); have X_2 := Lib.hid (IsV.stb.next X_1.out (hb)); have Y_2 := Lib.hid (IsQ.stb.next Y_1.out (hb)); have RX_2 := Lib.hid (Row.next RX_1.out (hb)); have RZ_2 := Lib.hid (Row.next RZ_1.out (hb)); have RY_2 := Lib.hid (Row.next RY_1.out (hb)); have B_2 := Lib.hid (Bru.next B_1.out (hb)); have bW_2 := Lib.hid (zaa bW_1.out (hb)); clear R_1 X_1 Y_1 RX_1 RZ_1 RY_1 B_1 bW_1; have D_0 := newD; clear newD; obtain ⟨s4, P4, k4, O4, l4, rfl, _, _, _⟩ := zan hv4; clear cRX0_4 cRZ0_5 fRZ0_5 cRY0_6 cRY1_6 cRY2_6; have cRX0_7 := zdy RX_2.out; have cRZ0_8 := zdy RZ_2.out; have fRZ0_8 := RZ_2.out.frozen 0; obtain ⟨cRY0_9, cRY1_9, cRY2_9⟩ := zad RY_2.out)
          | ((refine And.intro trivial ?_); gi_at_call 65; have hc := order_q D_0.out Y_2.out Hsd.out Hsy.out; (with_reducible refine CallsIn.inRound _ (callsIn_wide.2 (hc.mono ?_))); clear hc; rintro e w5 ⟨he, hb⟩; have R_3 := Lib.hid (IsV.stb.next R_2.out (hb)); have X_3 := Lib.hid (IsV.stb.next X_2.out (hb)); have Y_3 := Lib.hid (IsQ.stb.next Y_2.out (hb)); have RX_3 := Lib.hid (Row.next RX_2.out (hb)); have RZ_3 := Lib.hid (Row.next RZ_2.out (hb)); have RY_3 := Lib.hid (Row.next RY_2.out (hb)); have B_3 := Lib.hid (Bru.next B_2.out (hb)); have bW_3 := Lib.hid (zaa bW_2.out (hb)); have D_1 := Lib.hid (IsQ.stb.next D_0.out (hb)); clear R_2 X_2 Y_2 RX_2 RZ_2 RY_2 B_2 bW_2 D_0; rw [← Ho.out] at he; subst he; clear cRX0_7 cRZ0_8 fRZ0_8 cRY0_9 cRY1_9 cRY2_9; have cRX0_10 := zdy RX_3.out; have cRZ0_11 := zdy RZ_3.out; have fRZ0_11 := RZ_3.out.frozen 0; obtain ⟨cRY0_12, cRY1_12, cRY2_12⟩ := zad RY_3.out))
      all_goals gi_wp2
      all_goals
        exact ⟨((zcu bW_3.out).trans (KeepsOthers.setCell _ _ _)).from _, (zaa HBw.out bW_3.out).setCell (p := ⟨w.heap.size + 1 + 1, 0, none⟩) (by show _ ≤ w.heap.size + 1 + 1; omega) _, RZ_3.out.set_ 0 (.bool false), rfl, Hfin.out⟩
    · obtain ⟨o, ho⟩ : ∃ o, o = cmpQ d qy := ⟨_, rfl⟩
      have e0 : ¬ o > 0 := by rw [ho]; exact cmpQ_not_gt hdc
      have Hfin : Hid (pre'.all (keeps x) = true) := by rw [Hid, Hkeep.out]; exact decide_eq_true (Rat.not_lt.1 hdc)
      have Ho := Lib.hid ho
      clear ho hdc
      have cRX0_1 := zdy RX_0.out
      have cRZ0_2 := zdy RZ_0.out
      have fRZ0_2 := RZ_0.out.frozen 0
      obtain ⟨cRY0_3, cRY1_3, cRY2_3⟩ := zad RY_0.out
      gi_wp2
      have hmo : Tryz.prog.follows .mixedOrders = true := by kernel_rfl
      have R_1 := Lib.hid (IsV.stb.next R_0.out (zac _))
      have X_1 := Lib.hid (IsV.stb.next X_0.out (zac _))
      have Y_1 := Lib.hid (IsQ.stb.next Y_0.out (zac _))
      have RX_1 := Lib.hid (Row.next RX_0.out (zac _))
      have RZ_1 := Lib.hid (Row.next RZ_0.out (zac _))
      have RY_1 := Lib.hid (Row.next RY_0.out (zac _))
      have B_1 := Lib.hid (Bru.next B_0.out (zac _))
      have bW_1 := Lib.hid (zaa bW_0.out (zac _))
      clear R_0 X_0 Y_0 RX_0 RZ_0 RY_0 B_0 bW_0
      clear cRX0_1 cRZ0_2 fRZ0_2 cRY0_3 cRY1_3 cRY2_3
      have cRX0_4 := zdy RX_1.out
      have cRZ0_5 := zdy RZ_1.out
      have fRZ0_5 := RZ_1.out.frozen 0
      obtain ⟨cRY0_6, cRY1_6, cRY2_6⟩ := zad RY_1.out
      gi_region_with_o (first
          | ((refine And.intro trivial ?_); gi_at_call 58; have hc := (show Calls _ _ _ _ (RetQ _ d) from by rw [Hd.out]; exact dot_q (M := p.C.length) R_1.out X_1.out B_1.out Hrl.out Hl.out HG.out.nC Hsr.out Hsx.out); (with_reducible refine CallsIn.inRound _ (callsIn_wide.2 (hc.mono ?_))); clear hc; rintro e w4 ⟨⟨v4, rfl, hv4⟩, hb⟩; have newD := Lib.hid (IsQ.stb.old hv4); have R_2 := Lib.hid (IsV.stb.next R_1.out (hb)); have X_2 := Lib.hid (IsV.stb.next X_1.out (hb)); have Y_2 := Lib.hid (IsQ.stb.next Y_1.out (hb)); have RX_2 := Lib.hid (Row.next RX_1.out (hb)); have RZ_2 := Lib.hid (Row.next RZ_1.out (hb)); have RY_2 := Lib.hid (Row.next RY_1.out (hb)); have B_2 := Lib.hid (Bru.next B_1.out (hb)); have bW_2 := Lib.hid (zaa bW_1.out (hb)); clear R_1 X_1 Y_1 RX_1 RZ_1 RY_1 B_1 bW_1; have D_0 := newD; clear newD; obtain ⟨s4, P4, k4, O4, l4, rfl, _, _, _⟩ := zan hv4; clear cRX0_4 cRZ0_5 fRZ0_5 cRY0_6 cRY1_6 cRY2_6; have cRX0_7 := zdy RX_2.out; have cRZ0_8 := zdy RZ_2.out; have fRZ0_8 := RZ_2.out.frozen 0; obtain ⟨cRY0_9, cRY1_9, cRY2_9⟩ := zad RY_2.out)
          | ((refine And.intro trivial ?_); gi_at_call 65; have hc := order_q D_0.out Y_2.out Hsd.out Hsy.out; (with_reducible refine CallsIn.inRound _ (callsIn_wide.2 (hc.mono ?_))); clear hc; rintro e w5 ⟨he, hb⟩; have R_3 := Lib.hid (IsV.stb.next R_2.out (hb)); have X_3 := Lib.hid (IsV.stb.next X_2.out (hb)); have Y_3 := Lib.hid (IsQ.stb.next Y_2.out (hb)); have RX_3 := Lib.hid (Row.next RX_2.out (hb)); have RZ_3 := Lib.hid (Row.next RZ_2.out (hb)); have RY_3 := Lib.hid (Row.next RY_2.out (hb)); have B_3 := Lib.hid (Bru.next B_2.out (hb)); have bW_3 := Lib.hid (zaa bW_2.out (hb)); have D_1 := Lib.hid (IsQ.stb.next D_0.out (hb)); clear R_2 X_2 Y_2 RX_2 RZ_2 RY_2 B_2 bW_2 D_0; rw [← Ho.out] at he; subst he; clear cRX0_7 cRZ0_8 fRZ0_8 cRY0_9 cRY1_9 cRY2_9; have cRX0_10 := zdy RX_3.out; have cRZ0_11 := zdy RZ_3.out; have fRZ0_11 := RZ_3.out.frozen 0; obtain ⟨cRY0_12, cRY1_12, cRY2_12⟩ := zad RY_3.out))
      all_goals gi_wp2
      all_goals
        exact ⟨(zcu bW_3.out).from _, kpzv_of bW_3.out hnW, zaa HBw.out bW_3.out, RX_3.out, RZ_3.out, zam hnn bW_3.out, Hfin.out⟩
  case done =>
    rintro E xs W hD rfl ⟨hBw, rX, rZ, hnn, hall⟩ hK
    have HBw := Lib.hid hBw
    have HK := Lib.hid hK
    have RZ3 := Lib.hid rZ
    have HXW := Lib.hid (IsV.stb.to HX.out (zag hBw))
    have Hall := Lib.hid hall
    have d0 := zdy rX
    clear hBw rX rZ hall hK
    go_wp2_with fail
    refine (negative_l HXW.out).mono ?_
    rintro e w5 ⟨rfl, hb⟩
    obtain ⟨bn, hbn⟩ : ∃ bn, bn = zda (rawV x) := ⟨_, rfl⟩
    rw [← hbn]
    have Hbn := Lib.hid hbn
    have RZ5 := Lib.hid (RZ3.out.next hb)
    have HB5 := Lib.hid (zaa HBw.out hb)
    have HK5 := Lib.hid ((hb.block E (Array.getElem?_eq_some_iff.1 HK.out).1).trans HK.out)
    have c0 := zdy RZ5.out
    have f0 := RZ5.out.frozen 0
    clear hb hbn
    go_wp2_with fail
    have hK4 : (w5.setCell ⟨w.heap.size + 1 + 1, 0, none⟩ (.bool (!bn))).heap[E]? = _ := (Below.heap_setCell _ _ _ _ (by have := Hz.out; show E ≠ w.heap.size + 1 + 1; omega)).trans HK5.out
    have hrow := ((RZ5.out.set_ 0 (.bool (!bn))) : Row (w5.setCell ⟨w.heap.size + 1 + 1, 0, none⟩ (.bool (!bn))) _ _ [.bool (!bn)]).putD (o' := .deferred none) hK4 rfl
    refine ⟨by simp, .inl ⟨_, _, rfl, run_takeDeferred hK4, ?_⟩⟩
    refine ⟨.bool (!bn), results_cell rfl rfl hrow, ?_, ?_⟩
    · rw [Hf.out, Hall.out, Hbn.out]; rfl
    · exact (HB5.out.setCell (p := ⟨w.heap.size + 1 + 1, 0, none⟩) (by show _ ≤ w.heap.size + 1 + 1; omega) _).trans (belowK_b (w := w) (Nat.le_refl _) _ E _ _ (by omega) hK4 rfl rfl)
  case stop =>
    rintro E c pre W hD ⟨k, hk⟩ ⟨hBw, rZ, rfl, hall⟩ hK
    have Hf2 : Hid (zeg p.A p.B x = false) := by
      rw [Hid, Hf.out]
      have : z.all (keeps x) = false := by
        rw [List.all_eq_false] at hall ⊢
        obtain ⟨s, hs, h⟩ := hall
        rw [hk] at hs
        exact ⟨s, List.mem_of_mem_take hs, h⟩
      rw [this]
      rfl
    have HBw := Lib.hid hBw
    have HK := Lib.hid hK
    have RZ3 := Lib.hid rZ
    clear hBw hall rZ hK hk
    gi_wp2
    refine ⟨by simp, .inl ⟨_, _, rfl, run_takeDeferred HK.out, ?_⟩⟩
    refine ⟨.bool false, results_cell rfl rfl (RZ3.out.putD (o' := .deferred none) HK.out rfl), ?_, ?_⟩
    · rw [Hf2.out]
    · exact HBw.out.trans (belowK_b (w := w) (Nat.le_refl _) _ E _ _ (by omega) HK.out rfl rfl)
end Go.Proofs.YtblpaocignlpkaaGreatDoor
